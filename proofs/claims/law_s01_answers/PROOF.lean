import PyProof.Rows.All
import Wide.All
import OpenK.AllK
import Wide.FinOn
import Open.SpecLaws
import KE.OsGo
import HandS.ForSpec
import HandS.Comp
import HandS.Wide
import HandS.Iter
import HandS.Zip
import HandS.NoneIn
import HandS.CallLocal
import HandS.Style
import HandS.SortInts
import HandS.SortKw
import HandS.Dict
import PySem.Challenge.RW_logworth_s01_answers
set_option Elab.async false
set_option maxRecDepth 100000
set_option maxHeartbeats 4000000
set_option linter.all false
set_option exponentiation.threshold 10000
open PySem PySem.W PyProof.Rows in
set_option maxRecDepth 100000 in
set_option maxHeartbeats 80000000 in
/-- the head first, while little is held: what is left of the statement behind it -/
noncomputable def Lw.gp : { Q : Prop // (Unit → Q) → PySem.Challenge.rw_logworth_s01_answers.Holds } := by
  apply Subtype.mk
  case property =>
    intro hh
    refine (fun (zz : type_of% (hh ())) => ?m2) ?hc
    rotate_left
    exact hh ()
    clear zz
    w_on; k_headS; (case hw => exact ⟨[.list [.int 28]], by decide +kernel, by decide +kernel⟩)
/-! Fractions as rationals -/
namespace Lw
/-- the fraction of a rational -/
def F (r : Rat) : Kp432.Fraction := ⟨r.num, r.den⟩
theorem F_inj {x y : Rat} (h : F x = F y) : x = y := by
  unfold F at h
  injection h with h1 h2
  exact Rat.ext h1 h2
theorem fraction_F (n : Int) {d : Nat} (h : 0 < d) : Kp432.fraction n d = F (mkRat n d) := by
  have h0 : d ≠ 0 := by omega
  have hg : Nat.gcd n.natAbs d ≠ 0 := by
    have := Nat.gcd_pos_of_pos_right n.natAbs h
    omega
  unfold Kp432.fraction F
  show (if Nat.gcd n.natAbs d = 0 then _ else _) = _
  rw [if_neg hg, Rat.num_mkRat, Rat.den_mkRat, if_neg h0, if_neg h0, Nat.gcd_comm d]
theorem ofNat_F (n : Nat) : Kp432.ofNat n = F (n : Rat) := rfl
theorem den_mul_pos (x y : Rat) : 0 < x.den * y.den := Nat.mul_pos x.den_pos y.den_pos
theorem add_F (x y : Rat) : Kp432.add (F x) (F y) = F (x + y) := by
  unfold Kp432.add
  show Kp432.fraction (x.num * (y.den : Int) + y.num * (x.den : Int)) (x.den * y.den) = _
  rw [fraction_F _ (den_mul_pos x y), Rat.add_def']
theorem sub_F (x y : Rat) : Kp432.sub (F x) (F y) = F (x - y) := by
  unfold Kp432.sub
  show Kp432.fraction (x.num * (y.den : Int) - y.num * (x.den : Int)) (x.den * y.den) = _
  rw [fraction_F _ (den_mul_pos x y), Rat.sub_def']
theorem mul_F (x y : Rat) : Kp432.mul (F x) (F y) = F (x * y) := by
  unfold Kp432.mul
  show Kp432.fraction (x.num * y.num) (x.den * y.den) = _
  rw [fraction_F _ (den_mul_pos x y), Rat.mul_def']
theorem num_pos {y : Rat} (h : 0 < y) : 0 < y.num := by
  have := Rat.lt_iff 0 y
  simp at this
  exact this.mp h
theorem div_mk (x y : Rat) (h : 0 < y) : x / y = mkRat (x.num * (y.den : Int)) (x.den * y.num.toNat) := by
  have hn := num_pos h
  have e : ((y.num.toNat : Nat) : Int) = y.num := by omega
  have hy : y ≠ 0 := Rat.ne_of_gt h
  have hd : (x.den : Rat) ≠ 0 := by have := x.den_pos; intro q; have := Rat.natCast_pos.mpr this; rw [q] at this; exact Rat.lt_irrefl this
  rw [Rat.div_def, Rat.inv_def]
  have ex : x = Rat.divInt x.num (x.den : Int) := (Rat.num_divInt_den x).symm
  rw [← Rat.divInt_ofNat]
  conv => lhs; rw [ex]
  rw [Rat.divInt_mul_divInt]
  congr 1
  rw [Int.natCast_mul, e]
theorem over_F (x y : Rat) (h : 0 < y) : Kp432.over (F x) (F y) = F (x / y) := by
  have hn := num_pos h
  unfold Kp432.over
  show Kp432.fraction (x.num * (y.den : Int)) (x.den * y.num.toNat) = _
  rw [fraction_F _ (Nat.mul_pos x.den_pos (by omega)), div_mk x y h]
theorem square_F (x : Rat) : Kp432.square (F x) = F (x * x) := mul_F x x
theorem less_F (x y : Rat) : Kp432.less (F x) (F y) = decide (x < y) := by
  unfold Kp432.less
  show decide (x.num * (y.den : Int) < y.num * (x.den : Int)) = _
  rw [decide_eq_decide]
  exact (Rat.lt_iff x y).symm
/-- the sum of rationals, from the left -/
def sumL (l : List Rat) : Rat := l.foldl (· + ·) 0
theorem foldl_add (l : List Rat) (a : Rat) : l.foldl (· + ·) a = a + l.sum := by
  induction l generalizing a with
  | nil => simp [Rat.add_zero]
  | cons x r ih => rw [List.foldl_cons, ih, List.sum_cons, Rat.add_assoc]
theorem sumL_eq (l : List Rat) : sumL l = l.sum := by
  unfold sumL
  rw [foldl_add, Rat.zero_add]
theorem foldl_F (l : List Rat) (a : Rat) : (l.map F).foldl Kp432.add (F a) = F (a + l.sum) := by
  induction l generalizing a with
  | nil => simp [Rat.add_zero]
  | cons x r ih => rw [List.map_cons, List.foldl_cons, add_F, ih, List.sum_cons, Rat.add_assoc]
theorem total_F (l : List Rat) : Kp432.total (l.map F) = F l.sum := by
  unfold Kp432.total
  rw [ofNat_F, show (((0 : Nat) : Rat)) = 0 from rfl, foldl_F, Rat.zero_add]
theorem one_over (n : Nat) (h : 0 < n) : Kp432.fraction 1 n = F (1 / (n : Rat)) := by
  rw [fraction_F _ h, Rat.mkRat_eq_div]
  rfl
/-- the mean -/
def meanR (l : List Rat) : Rat := l.sum / (l.length : Rat)
theorem mean_F (l : List Rat) (h : l ≠ []) : Kp432.mean (l.map F) = F (meanR l) := by
  unfold Kp432.mean meanR
  have h1 : (l.map F).isEmpty = false := by cases l <;> simp_all
  have h2 : 0 < l.length := List.length_pos_iff.mpr h
  rw [h1, if_neg Bool.false_ne_true, total_F, List.length_map, one_over _ h2, mul_F]
  congr 1
  grind
theorem mean_nil : Kp432.mean [] = F 0 := rfl
/-- the variance of the mean -/
def varR (l : List Rat) : Rat := (l.map fun x => (x - meanR l) * (x - meanR l)).sum / (((l.length - 1) * l.length : Nat) : Rat)
theorem nat_ne {n : Nat} (h : 0 < n) : (n : Rat) ≠ 0 := by
  have := Rat.natCast_pos.mpr h
  exact Rat.ne_of_gt this
theorem var_F (l : List Rat) (h : 2 ≤ l.length) : Kp432.varianceOfMean (l.map F) = F (varR l) := by
  have hn : l ≠ [] := by intro e; rw [e] at h; simp at h
  unfold Kp432.varianceOfMean Kp432.sampleVariance varR
  have e : (l.map F).map (fun x => Kp432.square (Kp432.sub x (Kp432.mean (l.map F)))) = (l.map fun x => (x - meanR l) * (x - meanR l)).map F := by
    rw [mean_F l hn, List.map_map, List.map_map]
    apply List.map_congr_left
    intro x _
    show Kp432.square (Kp432.sub (F x) (F (meanR l))) = _
    rw [sub_F, square_F]
    rfl
  rw [e, total_F, List.length_map, one_over _ (by omega), one_over _ (by omega), mul_F, mul_F]
  congr 1
  rw [show (((l.length - 1) * l.length : Nat) : Rat) = ((l.length - 1 : Nat) : Rat) * (l.length : Rat) from by
    rw [← Rat.natCast_mul]]
  have a1 := nat_ne (n := l.length - 1) (by omega)
  have a2 := nat_ne (n := l.length) (by omega)
  generalize ((l.length - 1 : Nat) : Rat) = p at *
  generalize (l.length : Rat) = q at *
  grind
end Lw

/-! The mirror: the program over plain data, quotients as rationals -/
namespace Lw
structure Ev where
  c : Nat
  a : Nat
  r : Nat
  p : Rat
structure M where
  nc : Nat
  na : Nat
  ev : List Ev
  pol : List (List (List Nat))
  mo : List (List Rat)
  tw : List Nat
  tr : List (List Nat)
def wts (m : M) (k c : Nat) : List Nat := (m.pol.getD k []).getD c []
def chance (m : M) (k c a : Nat) : Rat := mkRat (((wts m k c).getD a 0 : Nat) : Int) (wts m k c).sum
def est (m : M) (c a : Nat) : Rat := (m.mo.getD c []).getD a 0
def imp (m : M) (k : Nat) (e : Ev) : Rat := chance m k e.c e.a / e.p
def direct (m : M) (k c : Nat) : Rat := ((List.range m.na).map fun a => chance m k c a * est m c a).sum
def lim (limit : Nat) : Rat := mkRat ((limit : Nat) : Int) 100
def clip (x y : Rat) : Rat := if x < y then x else y
def term (m : M) (k kind limit : Nat) (e : Ev) : Rat :=
  if kind = 0 then direct m k e.c
  else if kind = 1 then imp m k e * (e.r : Rat)
  else if kind = 2 then clip (imp m k e) (lim limit) * (e.r : Rat)
  else direct m k e.c + imp m k e * ((e.r : Rat) - est m e.c e.a)
def terms (m : M) (k kind limit : Nat) : List Rat := m.ev.map (term m k kind limit)
def imps (m : M) (k : Nat) : List Rat := m.ev.map (imp m k)
def rewd (m : M) (k : Nat) : List Rat := m.ev.map fun e => imp m k e * (e.r : Rat)
def best (w : List Nat) : Nat := (List.range w.length).foldl (fun b a => if w.getD b 0 < w.getD a 0 then a else b) 0
def here (m : M) (c a : Nat) : List Rat := (m.ev.filter fun e => e.c == c && e.a == a).map fun e => (e.r : Rat)
def byAct (m : M) (a : Nat) : List Rat := (m.ev.filter fun e => e.a == a).map fun e => (e.r : Rat)
def fitted (m : M) (c a : Nat) : Rat :=
  if here m c a = [] then (if byAct m a = [] then 0 else meanR (byAct m a)) else meanR (here m c a)
def fitRow (m : M) (c : Nat) : List Rat := (List.range m.na).map (fitted m c)
def ctxP (m : M) (c : Nat) : Rat := mkRat ((m.tw.getD c 0 : Nat) : Int) m.tw.sum
def rew (m : M) (c a : Nat) : Nat := (m.tr.getD c []).getD a 0
def expRew (m : M) (k c : Nat) : Rat := ((List.range m.na).map fun a => chance m k c a * ((rew m c a : Nat) : Rat)).sum
def trueV (m : M) (k : Nat) : Rat := ((List.range m.nc).map fun c => ctxP m c * expRew m k c).sum
def possAt (m : M) (g c a : Nat) : Option (Rat × Ev) := if 0 < chance m g c a then some (ctxP m c * chance m g c a, ⟨c, a, rew m c a, chance m g c a⟩) else none
def possible (m : M) (g : Nat) : List (Rat × Ev) := (List.range m.nc).flatMap fun c => (List.range m.na).filterMap (possAt m g c)
def momMid (m : M) (g k kind limit : Nat) : Rat := ((possible m g).map fun d => d.1 * term m k kind limit d.2).sum
def momSpread (m : M) (g k kind limit : Nat) : Rat := ((possible m g).map fun d => d.1 * ((term m k kind limit d.2 - momMid m g k kind limit) * (term m k kind limit d.2 - momMid m g k kind limit))).sum
def unsupAt (m : M) (g k c a : Nat) : Bool := decide (0 < chance m k c a) && decide (chance m g c a = 0)
def unsup (m : M) (g k : Nat) : List (Nat × Nat) := (List.range m.nc).flatMap fun c => ((List.range m.na).filter (unsupAt m g k c)).map fun a => (c, a)
/-! resampling -/
def nextSeed (seed : Nat) : Nat := (1103515245 * seed + 12345) % 2147483648
def drawStep (l : List Int) (st : Int × Nat) : Int × Nat := (st.1 + l.getD (nextSeed st.2 / 65536 % l.length) 0, nextSeed st.2)
def drawN (l : List Int) : Nat → Int × Nat → Int × Nat
  | 0, st => st
  | n + 1, st => drawN l n (drawStep l st)
def sumsN (l : List Int) : Nat → List Int × Nat → List Int × Nat
  | 0, st => st
  | n + 1, st => sumsN l n (st.1 ++ [(drawN l l.length (0, st.2)).1], (drawN l l.length (0, st.2)).2)
def sortI (l : List Int) : List Int := l.mergeSort (fun a b => decide (a ≤ b))
def lcmL (l : List Rat) : Nat := l.foldl (fun d x => d / Nat.gcd d x.den * x.den) 1
def scaled (l : List Rat) : List Int := l.map fun x => x.num * ((lcmL l / x.den : Nat) : Int)
def sortedSums (l : List Rat) (rounds seed : Nat) : List Int := sortI (sumsN (scaled l) rounds ([], seed)).1
def boots (l : List Rat) (rounds seed : Nat) : List Rat :=
  [(sortedSums l rounds seed).getD 0 0, (sortedSums l rounds seed).getD ((rounds - 1) / 2) 0, (sortedSums l rounds seed).getD (rounds - 1) 0].map fun x => mkRat x (lcmL l * l.length)
/-! ranked lists -/
def precAt (l : List Nat) (k : Nat) : Rat := mkRat (((l.take k).sum : Nat) : Int) k
def hitsAt (l : List Nat) : List Nat := (List.range l.length).filter fun i => l.getD i 0 == 1
def avgPrec (l : List Nat) : Rat := if hitsAt l = [] then 0 else meanR ((hitsAt l).map fun i => precAt l (i + 1))
def recRank (l : List Nat) : Rat := match hitsAt l with
  | [] => 0
  | i :: _ => mkRat 1 (i + 1)
def disc (l : List Nat) : Rat := ((List.range l.length).map fun i => mkRat ((l.getD i 0 : Nat) : Int) (i + 1)).sum
def sortDown (l : List Nat) : List Nat := l.mergeSort (fun a b => decide (b ≤ a))
def rising (l : List Nat) : Nat := ((List.range l.length).map fun j => ((List.range j).filter fun i => decide (l.getD i 0 < l.getD j 0)).length).sum
/-! the answers -/
def frs (l : List Rat) : List Int := l.flatMap fun x => [x.num, (x.den : Int)]
def isPol (k : Nat) : Bool := decide (k ≤ 2)
def isEst (kind limit : Nat) : Bool := decide (kind ≤ 3) && (decide (1 ≤ limit) && decide (limit ≤ 100000))
def isCtx (m : M) (c : Nat) : Bool := decide (c < m.nc)
def isAct (m : M) (a : Nat) : Bool := decide (a < m.na)
def allLe (l : List Nat) (top : Nat) : Bool := l.all fun x => decide (x ≤ top)
def isWts (l : List Nat) (n : Nat) : Bool := l.length == n && (allLe l 1000 && decide (0 < l.sum))
def isRews (l : List Nat) (n : Nat) : Bool := l.length == n && allLe l 100
def isRanked (l : List Nat) (least top : Nat) : Bool := (decide (least ≤ l.length) && decide (l.length ≤ 12)) && allLe l top
def isProp (n d : Nat) : Bool := decide (1 ≤ n) && (decide (n ≤ d) && decide (d ≤ 1000))
def code (m : M) (ks : List Nat) (kind limit least : Nat) : Int :=
  if ks.all isPol = true then (if isEst kind limit = true then (if least ≤ m.ev.length then 0 else -33) else -22) else -2
abbrev Ret := M × List Int
def oAdd (m : M) (c a r n d : Nat) : Ret :=
  if (isCtx m c && isAct m a) = true then
    (if (decide (100 < r) || !isProp n d) = true then (m, [-22]) else if 40 ≤ m.ev.length then (m, [-28])
      else ({ m with ev := m.ev ++ [⟨c, a, r, mkRat ((n : Nat) : Int) d⟩] }, [((m.ev.length + 1 : Nat) : Int)]))
  else (m, [-2])
def oRemove (m : M) : Ret := if m.ev = [] then (m, [-33]) else ({ m with ev := m.ev.dropLast }, [((m.ev.length - 1 : Nat) : Int)])
def oLog (m : M) (k c a r : Nat) : Ret :=
  if (isPol k && (isCtx m c && isAct m a)) = true then
    (if 100 < r then (m, [-22]) else if chance m k c a = 0 then (m, [-33]) else if 40 ≤ m.ev.length then (m, [-28])
      else ({ m with ev := m.ev ++ [⟨c, a, r, chance m k c a⟩] }, [((m.ev.length + 1 : Nat) : Int)]))
  else (m, [-2])
def oPolicy (m : M) (k c : Nat) (row : List Nat) : Ret :=
  if (isPol k && isCtx m c) = true then
    (if isWts row m.na = true then ({ m with pol := m.pol.set k ((m.pol.getD k []).set c row) }, [((row.sum : Nat) : Int)]) else (m, [-22]))
  else (m, [-2])
def oCopy (m : M) (a b : Nat) : Ret := if (isPol a && isPol b) = true then ({ m with pol := m.pol.set b (m.pol.getD a []) }, [0]) else (m, [-2])
def oModel (m : M) (c : Nat) (row : List Nat) : Ret :=
  if isCtx m c = true then (if isRews row m.na = true then ({ m with mo := m.mo.set c (row.map fun (x : Nat) => (x : Rat)) }, [0]) else (m, [-22])) else (m, [-2])
def oFit (m : M) : Ret := ({ m with mo := (List.range m.nc).map (fitRow m) }, [((m.ev.length : Nat) : Int)])
def oTruth (m : M) (c w : Nat) (row : List Nat) : Ret :=
  if isCtx m c = true then
    (if ((decide (1 ≤ w) && decide (w ≤ 1000)) && isRews row m.na) = true then ({ m with tw := m.tw.set c w, tr := m.tr.set c row }, [0]) else (m, [-22]))
  else (m, [-2])
def oProp (m : M) (k c a : Nat) : List Int := if (isPol k && (isCtx m c && isAct m a)) = true then 0 :: frs [chance m k c a] else [-2]
def oEst (m : M) (k kind limit : Nat) : List Int := if code m [k] kind limit 1 = 0 then 0 :: frs [meanR (terms m k kind limit)] else [code m [k] kind limit 1]
def oNorm (m : M) (k : Nat) : List Int := if isPol k = true then (if (imps m k).sum = 0 then [-33] else 0 :: frs [(rewd m k).sum / (imps m k).sum]) else [-2]
def played (m : M) (k : Nat) : List Rat := (m.ev.filter fun e => e.a == best (wts m k e.c)).map fun e => (e.r : Rat)
def oReplay (m : M) (k : Nat) : List Int := if isPol k = true then (if played m k = [] then [-33] else (((played m k).length : Nat) : Int) :: frs [meanR (played m k)]) else [-2]
def sqs (l : List Rat) : List Rat := l.map fun x => x * x
def oEff (m : M) (k : Nat) : List Int := if isPol k = true then (if (sqs (imps m k)).sum = 0 then [-33] else 0 :: frs [((imps m k).sum * (imps m k).sum) / (sqs (imps m k)).sum]) else [-2]
def oVar (m : M) (k kind limit : Nat) : List Int := if code m [k] kind limit 2 = 0 then 0 :: frs [varR (terms m k kind limit)] else [code m [k] kind limit 2]
def oInt (m : M) (k kind limit f : Nat) : List Int :=
  if (decide (1 ≤ f) && decide (f ≤ 10000)) = true then (if code m [k] kind limit 2 = 0 then 0 :: frs [meanR (terms m k kind limit), (f : Rat) * varR (terms m k kind limit)] else [code m [k] kind limit 2]) else [-22]
def diffs (xs ys : List Rat) : List Rat := (xs.zip ys).map fun p => p.1 - p.2
def oComp (m : M) (a b kind limit : Nat) : List Int :=
  if code m [a, b] kind limit 2 = 0 then 0 :: frs [meanR (diffs (terms m a kind limit) (terms m b kind limit)), varR (diffs (terms m a kind limit) (terms m b kind limit))] else [code m [a, b] kind limit 2]
def atCtx (m : M) (k kind limit c : Nat) : List Rat := (m.ev.filter fun e => e.c == c).map (term m k kind limit)
def mean0 (l : List Rat) : Rat := if l = [] then 0 else meanR l
def ctxAns (m : M) (k kind limit c : Nat) : List Int := (((atCtx m k kind limit c).length : Nat) : Int) :: frs [mean0 (atCtx m k kind limit c)]
def oCtx (m : M) (k kind limit : Nat) : List Int :=
  if code m [k] kind limit 1 = 0 then ((m.nc : Nat) : Int) :: (List.range m.nc).flatMap (ctxAns m k kind limit) else [code m [k] kind limit 1]
def maxR : List Rat → Rat
  | [] => 0
  | x :: r => (x :: r).foldl (fun f y => if f < y then y else f) x
def oGreat (m : M) (k : Nat) : List Int := if isPol k = true then (if m.ev = [] then [-33] else 0 :: frs [maxR (imps m k)]) else [-2]
def oModelInfo (m : M) (c : Nat) : List Int := if isCtx m c = true then ((m.na : Nat) : Int) :: frs (m.mo.getD c []) else [-2]
def oTrue (m : M) (k : Nat) : List Int := if isPol k = true then 0 :: frs [trueV m k] else [-2]
def oExp (m : M) (g k kind limit : Nat) : List Int :=
  if (isPol g && isPol k) = true then (if isEst kind limit = true then 0 :: frs [momMid m g k kind limit, momSpread m g k kind limit] else [-22]) else [-2]
def pairs (l : List (Nat × Nat)) : List Int := l.flatMap fun p => [((p.1 : Nat) : Int), ((p.2 : Nat) : Int)]
def oUns (m : M) (g k : Nat) : List Int := if (isPol g && isPol k) = true then (((unsup m g k).length : Nat) : Int) :: pairs (unsup m g k) else [-2]
def oBoot (m : M) (k kind limit rounds seed : Nat) : List Int :=
  if (decide (1 ≤ rounds) && decide (rounds ≤ 50)) = true then (if code m [k] kind limit 1 = 0 then 0 :: frs (boots (terms m k kind limit) rounds seed) else [code m [k] kind limit 1]) else [-22]
def oPrec (n : Nat) (row : List Nat) : List Int := if ((decide (1 ≤ n) && decide (n ≤ 12)) && isRanked row 1 1) = true then 0 :: frs [precAt row n] else [-22]
def oRank (row : List Nat) : List Int := if isRanked row 1 1 = true then ((row.sum : Nat) : Int) :: frs [avgPrec row, recRank row] else [-22]
def oGains (row : List Nat) : List Int := if isRanked row 1 100 = true then (if row.sum = 0 then [-33] else 0 :: frs [disc row, disc row / disc (sortDown row)]) else [-22]
def oOrder (row : List Nat) : List Int :=
  if isRanked row 2 1000 = true then ((rising row : Nat) : Int) :: ((rising row.reverse : Nat) : Int) :: frs [mkRat ((rising row : Nat) - (rising row.reverse : Nat) : Int) (row.length * (row.length - 1) / 2)] else [-22]
def oStatus (m : M) : List Int := [((m.nc : Nat) : Int), ((m.na : Nat) : Int), ((m.ev.length : Nat) : Int), (((m.ev.map Ev.r).sum : Nat) : Int)]
def fresh (n k : Nat) : M := ⟨n, k, [], List.replicate 3 (List.replicate n (List.replicate k 1)), List.replicate n (List.replicate k 0), List.replicate n 1, List.replicate n (List.replicate k 0)⟩
def oCreate (s : Option M) (n k : Nat) : Option M × List Int :=
  if ((decide (1 ≤ n) && decide (n ≤ 6)) && (decide (1 ≤ k) && decide (k ≤ 5))) = true then (some (fresh n k), [0]) else (s, [-22])
/-- one call with a study -/
def onM (m : M) : Nat → List Nat → List Nat → Ret
  | 1, [c, a, r, n, d], _ => oAdd m c a r n d
  | 2, [], _ => oRemove m
  | 3, [k, c, a, r], _ => oLog m k c a r
  | 4, [k, c], row => oPolicy m k c row
  | 5, [a, b], _ => oCopy m a b
  | 6, [c], row => oModel m c row
  | 7, [], _ => oFit m
  | 8, [c, w], row => oTruth m c w row
  | 9, [k, c, a], _ => (m, oProp m k c a)
  | 10, [k, kind, limit], _ => (m, oEst m k kind limit)
  | 11, [k], _ => (m, oNorm m k)
  | 12, [k], _ => (m, oReplay m k)
  | 13, [k], _ => (m, oEff m k)
  | 14, [k, kind, limit], _ => (m, oVar m k kind limit)
  | 15, [k, kind, limit, f], _ => (m, oInt m k kind limit f)
  | 16, [a, b, kind, limit], _ => (m, oComp m a b kind limit)
  | 17, [k, kind, limit], _ => (m, oCtx m k kind limit)
  | 18, [k], _ => (m, oGreat m k)
  | 19, [c], _ => (m, oModelInfo m c)
  | 20, [k], _ => (m, oTrue m k)
  | 21, [g, k, kind, limit], _ => (m, oExp m g k kind limit)
  | 22, [g, k], _ => (m, oUns m g k)
  | 23, [k, kind, limit, rounds, seed], _ => (m, oBoot m k kind limit rounds seed)
  | 24, [n], row => (m, oPrec n row)
  | 25, [], row => (m, oRank row)
  | 26, [], row => (m, oGains row)
  | 27, [], row => (m, oOrder row)
  | 28, [], _ => (m, oStatus m)
  | _, _, _ => (m, [])
def onS (s : Option M) (n : Nat) (xs row : List Nat) : Option M × List Int :=
  if n = 0 then (match xs with
    | [a, b] => oCreate s a b
    | _ => (s, []))
  else match s with
    | none => (none, [-11])
    | some m => (some (onM m n xs row).1, (onM m n xs row).2)
end Lw

/-! ## Words for the walk: what stands in the heap, and one lemma a reading -/
namespace Lw
open PySem PySem.Spec PyProof.Rows L2

/-! ### what is known of the heap stays known -/
abbrev Rw := _root_.Rat
theorem rd_up {H H' : Hp} {a : Addr} {u : HO} (e : Same H H') (h : Rd H a u) : Rd H' a u := by
  rcases h with h | ⟨o, h⟩
  · exact Or.inl (e a _ h)
  · exact Or.inr ⟨o, e a _ h⟩
theorem sqL_up {K : PySem.W.Frag} {H H' : Hp} {a : Addr} {xs : List V} (e : Same H H') (h : SqL K H a xs) : SqL K H' a xs := by
  rcases h with h | h
  · exact Or.inl (rd_up e h)
  · exact Or.inr h
theorem sqT_up {K : PySem.W.Frag} {H H' : Hp} {a : Addr} {xs : List V} (e : Same H H') (h : SqT K H a xs) : SqT K H' a xs := by
  rcases h with h | h
  · exact Or.inl (rd_up e h)
  · exact Or.inr h
theorem same_new {H : Hp} {p : Addr} {o : HO} (h : H p = none) : Same H (upd H p o) := fun a u e => by
  rw [upd_ne (ne_of_none e h)]
  exact e
/-- an object that H does not know may change -/
theorem same_mut {H H' : Hp} {p : Addr} {o : HO} (e : Same H H') (h : H p = none) : Same H (upd H' p o) := fun a u ha => by
  rw [upd_ne (ne_of_none ha h)]
  exact e a u ha
/-- a list that changes is no tuple and no list of the written part -/
theorem sqT_mut {K : PySem.W.Frag} {H : Hp} {a l : Addr} {xs ys : List V} {o : HO} (hl : H l = some (.lst ys)) (h : SqT K H a xs) : SqT K (upd H l o) a xs := by
  rcases h with (h | ⟨ob, h⟩) | h
  · exact .inl (.inl (by rw [upd_ne (ne_of h hl (by intro z; cases z))]; exact h))
  · exact .inl (.inr ⟨ob, by rw [upd_ne (ne_of h hl (by intro z; cases z))]; exact h⟩)
  · exact .inr h

/-! ### data in the heap -/
/-- a quotient: a tuple of numerator and denominator -/
def Fq (K : PySem.W.Frag) (H : Hp) (v : V) (r : Rw) : Prop := ∃ p, v = .ref p ∧ SqT K H p [.int r.num, .int (r.den : Int)]
theorem Fq.up {K : PySem.W.Frag} {H H' : Hp} {v : V} {r : Rw} (e : Same H H') (h : Fq K H v r) : Fq K H' v r :=
  let ⟨p, a, b⟩ := h
  ⟨p, a, sqT_up e b⟩
theorem Fq.mut {K : PySem.W.Frag} {H : Hp} {v : V} {r : Rw} {l : Addr} {ys : List V} {o : HO} (hl : H l = some (.lst ys)) (h : Fq K H v r) : Fq K (upd H l o) v r :=
  let ⟨p, a, b⟩ := h
  ⟨p, a, sqT_mut hl b⟩
/-- two lists, item by item -/
inductive All2 {α β : Type} (R : α → β → Prop) : List α → List β → Prop where
  | nil : All2 R [] []
  | cons {a : α} {b : β} {l : List α} {m : List β} (h : R a b) (t : All2 R l m) : All2 R (a :: l) (b :: m)
theorem All2.imp {α β : Type} {R S : α → β → Prop} (f : ∀ a b, R a b → S a b) : ∀ {l : List α} {m : List β}, All2 R l m → All2 S l m
  | _, _, .nil => .nil
  | _, _, .cons h t => .cons (f _ _ h) (t.imp f)
theorem All2.len {α β : Type} {R : α → β → Prop} : ∀ {l : List α} {m : List β}, All2 R l m → l.length = m.length
  | _, _, .nil => rfl
  | _, _, .cons _ t => congrArg (· + 1) t.len
theorem All2.get {α β : Type} {R : α → β → Prop} : ∀ {l : List α} {m : List β} {i : Nat} {a : α}, All2 R l m → l[i]? = some a → ∃ b, m[i]? = some b ∧ R a b
  | _, _, _, _, .nil, e => by simp at e
  | _, _, 0, _, .cons h _, e => by
    have e' := Option.some.inj e
    subst e'
    exact ⟨_, rfl, h⟩
  | _, _, i + 1, a, .cons _ t, e => t.get (i := i) (a := a) (by simpa using e)
theorem All2.get' {α β : Type} {R : α → β → Prop} : ∀ {l : List α} {m : List β} {i : Nat} {b : β}, All2 R l m → m[i]? = some b → ∃ a, l[i]? = some a ∧ R a b
  | _, _, _, _, .nil, e => by simp at e
  | _, _, 0, _, .cons h _, e => by
    have e' := Option.some.inj e
    subst e'
    exact ⟨_, rfl, h⟩
  | _, _, i + 1, a, .cons _ t, e => t.get' (i := i) (b := a) (by simpa using e)
theorem All2.app {α β : Type} {R : α → β → Prop} : ∀ {l l' : List α} {m m' : List β}, All2 R l m → All2 R l' m' → All2 R (l ++ l') (m ++ m')
  | _, _, _, _, .nil, h => h
  | _, _, _, _, .cons a t, h => .cons a (t.app h)
theorem All2.one {α β : Type} {R : α → β → Prop} {a : α} {b : β} (h : R a b) : All2 R [a] [b] := .cons h .nil
theorem All2.take {α β : Type} {R : α → β → Prop} : ∀ {l : List α} {m : List β} (n : Nat), All2 R l m → All2 R (l.take n) (m.take n)
  | _, _, 0, _ => .nil
  | _, _, _ + 1, .nil => .nil
  | _, _, n + 1, .cons h t => .cons h (t.take n)
theorem All2.dropLast {α β : Type} {R : α → β → Prop} {l : List α} {m : List β} (h : All2 R l m) : All2 R l.dropLast m.dropLast := by
  rw [List.dropLast_eq_take, List.dropLast_eq_take, h.len]
  exact h.take _
theorem All2.set {α β : Type} {R : α → β → Prop} {a : α} {b : β} (h : R a b) : ∀ {l : List α} {m : List β} (i : Nat), All2 R l m → All2 R (l.set i a) (m.set i b)
  | _, _, _, .nil => .nil
  | _, _, 0, .cons _ t => .cons h t
  | _, _, i + 1, .cons g t => .cons g (t.set h i)
/-- a list of quotients -/
def Fs (K : PySem.W.Frag) (H : Hp) (v : V) (rs : List Rw) : Prop := ∃ p xs, v = .ref p ∧ SqL K H p xs ∧ All2 (Fq K H) xs rs
theorem Fs.up {K : PySem.W.Frag} {H H' : Hp} {v : V} {rs : List Rw} (e : Same H H') (h : Fs K H v rs) : Fs K H' v rs :=
  let ⟨p, xs, a, b, c⟩ := h
  ⟨p, xs, a, sqL_up e b, c.imp fun _ _ q => q.up e⟩
/-- a list of ints; of whole numbers from 0 on -/
def Is (K : PySem.W.Frag) (H : Hp) (v : V) (ns : List Int) : Prop := ∃ p, v = .ref p ∧ SqL K H p (ns.map V.int)
theorem Is.up {K : PySem.W.Frag} {H H' : Hp} {v : V} {ns : List Int} (e : Same H H') (h : Is K H v ns) : Is K H' v ns :=
  let ⟨p, a, b⟩ := h
  ⟨p, a, sqL_up e b⟩
def nz (ns : List Nat) : List Int := ns.map fun (n : Nat) => (n : Int)
def Ns (K : PySem.W.Frag) (H : Hp) (v : V) (ns : List Nat) : Prop := Is K H v (nz ns)
theorem Ns.up {K : PySem.W.Frag} {H H' : Hp} {v : V} {ns : List Nat} (e : Same H H') (h : Ns K H v ns) : Ns K H' v ns := Is.up e h
/-- an event -/
def Eq4 (K : PySem.W.Frag) (H : Hp) (v : V) (e : Ev) : Prop := ∃ p q, v = .ref p ∧ SqT K H p [.int (e.c : Int), .int (e.a : Int), .int (e.r : Int), q] ∧ Fq K H q e.p
theorem Eq4.up {K : PySem.W.Frag} {H H' : Hp} {v : V} {x : Ev} (e : Same H H') (h : Eq4 K H v x) : Eq4 K H' v x :=
  let ⟨p, q, a, b, c⟩ := h
  ⟨p, q, a, sqT_up e b, c.up e⟩
theorem Eq4.mut {K : PySem.W.Frag} {H : Hp} {v : V} {x : Ev} {l : Addr} {ys : List V} {o : HO} (hl : H l = some (.lst ys)) (h : Eq4 K H v x) : Eq4 K (upd H l o) v x :=
  let ⟨p, q, a, b, c⟩ := h
  ⟨p, q, a, sqT_mut hl b, c.mut hl⟩
def Evs (K : PySem.W.Frag) (H : Hp) (v : V) (es : List Ev) : Prop := ∃ p xs, v = .ref p ∧ SqL K H p xs ∧ All2 (Eq4 K H) xs es
theorem Evs.up {K : PySem.W.Frag} {H H' : Hp} {v : V} {es : List Ev} (e : Same H H') (h : Evs K H v es) : Evs K H' v es :=
  let ⟨p, xs, a, b, c⟩ := h
  ⟨p, xs, a, sqL_up e b, c.imp fun _ _ q => q.up e⟩

/-! ### one lemma a reading -/
section
variable {K : PySem.W.Frag} {σ : L2.St} {H : Hp} {Q : VK} {ta tb te tc : TE} {tt tu : TT} {tg : TA} {x y v : V} {i j : Int}
theorem st_var {n : Nat} (h : σ[n]? = some (some v)) (q : Q v H) : tVar n σ H Q := ⟨v, h, q⟩
theorem st_c (q : Q v H) : tC v σ H Q := q
theorem st_op {r : R2} (q : ta σ H fun x H1 => tb σ H1 fun y H2 => r x y H2 Q) : tOp r ta tb σ H Q := q
theorem st_un {r : V → Hp → VK → Prop} (q : ta σ H fun x H1 => r x H1 Q) : tUn r ta σ H Q := q
theorem st_rI0 {g : Int → Int → V} (q : Q (g i j) H) : rI0 g (.int i) (.int j) H Q := ⟨i, j, rfl, rfl, q⟩
theorem st_rI {C : Int → Int → Prop} {g : Int → Int → V} (c : C i j) (q : Q (g i j) H) : rI C g (.int i) (.int j) H Q := ⟨i, j, rfl, rfl, c, q⟩
theorem st_rU {g : Int → V} (q : Q (g i) H) : rU g (.int i) H Q := ⟨i, rfl, q⟩
theorem st_eq (s : scal x y = true) (q : Q (.bl (decide (x = y))) H) : rEq x y H Q := ⟨s, q⟩
theorem st_ne (s : scal x y = true) (q : Q (.bl (!decide (x = y))) H) : rNe x y H Q := ⟨s, q⟩
theorem st_ixL {p : Addr} {xs : List V} (h : SqL K H p xs) (e : atI xs i = some v) (q : Q v H) : rIxL K (.ref p) (.int i) H Q := ⟨p, xs, i, v, rfl, rfl, h, e, q⟩
theorem st_ixT {p : Addr} {xs : List V} (h : SqT K H p xs) (e : atI xs i = some v) (q : Q v H) : rIxT K (.ref p) (.int i) H Q := ⟨p, xs, i, v, rfl, rfl, h, e, q⟩
theorem st_nil {Q : List V → Hp → Prop} (q : Q [] H) : tNil σ H Q := q
theorem st_cons {Q : List V → Hp → Prop} (q : ta σ H fun x H1 => tg σ H1 fun xs H2 => Q (x :: xs) H2) : tCons ta tg σ H Q := q
theorem st_call {sp : Sp} {E : XK} (q : tg σ H fun vs H1 => sp vs H1 Q E) : tCall sp [] E tg σ H Q := by
  have e : (fun (vs : List V) (H1 : Hp) => sp (vs ++ []) H1 Q E) = fun vs H1 => sp vs H1 Q E := by
    funext vs H1
    rw [List.append_nil]
  show tg σ H (fun vs H1 => sp (vs ++ []) H1 Q E)
  rw [e]
  exact q
theorem st_callB {r : List V → Hp → VK → Prop} (q : tg σ H fun vs H1 => r vs H1 Q) : tCB r tg σ H Q := q
/-- a new tuple, a new list -/
def newT (xs : List V) (H : Hp) (Q : VK) : Prop := xs.length ≤ sizeLine ∧ ∀ p, H p = none → Q (.ref p) (upd H p (.tup xs))
def newL (xs : List V) (H : Hp) (Q : VK) : Prop := xs.length ≤ sizeLine ∧ ∀ p, H p = none → Q (.ref p) (upd H p (.lst xs))
theorem st_tup (q : tg σ H fun xs H1 => newT xs H1 Q) : tTup tg σ H Q := q
theorem st_lst (q : tg σ H fun xs H1 => newL xs H1 Q) : tLst tg σ H Q := q
theorem new_t {xs : List V} (l : xs.length ≤ 100000) (q : ∀ p H2, Same H H2 → SqT K H2 p xs → Q (.ref p) H2) : newT xs H Q :=
  ⟨Nat.le_trans l (by decide), fun p hp => q p _ (same_new hp) (SqT.of upd_same)⟩
theorem new_l {xs : List V} (l : xs.length ≤ 100000) (q : ∀ p H2, H p = none → Same H H2 → H2 p = some (.lst xs) → Q (.ref p) H2) : newL xs H Q :=
  ⟨Nat.le_trans l (by decide), fun p hp => q p _ hp (same_new hp) upd_same⟩
/-- a list of the text's own places, a slice, a sum, a product: new lists -/
theorem new_any {xs : List V} (q : ∀ p H2, H p = none → Same H H2 → H2 p = some (.lst xs) → Q (.ref p) H2) : ∀ p, H p = none → Q (.ref p) (upd H p (.lst xs)) := fun p hp => q p _ hp (same_new hp) upd_same
/-! tests -/
def isB (x : V) (Q : Bool → Hp → Prop) (H : Hp) : Prop := ∃ c, x = .bl c ∧ Q c H
theorem st_isB {c : Bool} {Q : Bool → Hp → Prop} (q : Q c H) : isB (.bl c) Q H := ⟨c, rfl, q⟩
def cond (b : Bool) (A B : Prop) : Prop := if b = true then A else B
theorem cond_t {b : Bool} {A B : Prop} (h : b = true) (q : A) : cond b A B := by
  show if b = true then A else B
  rw [if_pos h]
  exact q
theorem cond_f {b : Bool} {A B : Prop} (h : b = false) (q : B) : cond b A B := by
  show if b = true then A else B
  rw [h, if_neg Bool.false_ne_true]
  exact q
theorem cond_2 {b : Bool} {A B : Prop} (h1 : b = true → A) (h2 : b = false → B) : cond b A B := by
  cases b with
  | true => exact cond_t rfl (h1 rfl)
  | false => exact cond_f rfl (h2 rfl)
section
variable {Q : Bool → Hp → Prop}
theorem st_B (q : te σ H fun x H1 => isB x Q H1) : tB te σ H Q := q
theorem st_test (q : te σ H fun x H1 => isB x Q H1) : tTest te σ H Q := q
theorem st_not (q : tt σ H fun c H1 => Q (!c) H1) : tNot tt σ H Q := q
theorem st_and (q : tt σ H fun c H1 => cond c (tu σ H1 Q) (Q false H1)) : tAnd tt tu σ H Q := q
theorem st_or (q : tt σ H fun c H1 => cond c (Q true H1) (tu σ H1 Q)) : tOr tt tu σ H Q := q
theorem st_yes (q : Q true H) : tYes σ H Q := q
end
def isB2 (x : V) (A : Hp → Prop) (B : Hp → Prop) (H : Hp) : Prop := ∃ c, x = .bl c ∧ if c = true then A H else B H
theorem st_isB2 {c : Bool} {A B : Hp → Prop} (q : cond c (A H) (B H)) : isB2 (.bl c) A B H := ⟨c, rfl, q⟩
theorem st_andV (q : ta σ H fun x H1 => isB2 x (fun H1 => tb σ H1 Q) (fun H1 => Q (.bl false) H1) H1) : tAndV ta tb σ H Q := q
theorem st_orV (q : ta σ H fun x H1 => isB2 x (fun H1 => Q (.bl true) H1) (fun H1 => tb σ H1 Q) H1) : tOrV ta tb σ H Q := q
theorem st_ifE (q : tt σ H fun c H1 => cond c (ta σ H1 Q) (tb σ H1 Q)) : tIf tt ta tb σ H Q := q
/-! statements -/
variable {D : Ends} {tw tz : TS} {g : TG} {Qn : L2.St → Hp → Prop}
theorem st_seq (q : tw { D with nx := tz D } σ H) : tSeq tw tz D σ H := q
theorem st_asg (q : te σ H fun x H1 => g x σ H1 D.nx) : tAsg te g D σ H := q
theorem st_gname {n : Nat} (q : Qn (σ.set n (some x)) H) : gName n x σ H Qn := q
theorem st_ret (q : te σ H D.rt) : tRet te D σ H := q
theorem st_ifS (q : tt σ H fun b H1 => cond b (tw D σ H1) (tz D σ H1)) : tIfS tt tw tz D σ H := q
theorem st_nx0 (q : D.nx σ H) : tNext D σ H := q
theorem st_drop (q : te σ H fun _ H1 => D.nx σ H1) : tDrop te D σ H := q
theorem st_nx {f b c : L2.St → Hp → Prop} {r : VK} (q : f σ H) : (Ends.mk f r b c).nx σ H := q
theorem st_rt {f b c : L2.St → Hp → Prop} {r : VK} (q : r x H) : (Ends.mk f r b c).rt x H := q
/-- two names at once -/
def par2 (i j : Nat) (D : Ends) (σ : L2.St) (vs : List V) (H : Hp) : Prop := ∃ v w, vs = [v, w] ∧ D.nx ((σ.set i (some v)).set j (some w)) H
theorem st_par {i j : Nat} (q : tg σ H fun vs H1 => par2 i j D σ vs H1) : tPar i j tg D σ H := q
theorem st_par2 {i j : Nat} (q : D.nx ((σ.set i (some x)).set j (some y)) H) : par2 i j D σ [x, y] H := ⟨x, y, rfl, q⟩
/-- a tuple, a list taken apart -/
theorem st_gtup {n : Nat} {t : TGs} {a : Addr} {xs : List V} (h : SqT K H a xs) (l : xs.length = n) (q : t xs σ H Qn) : gTup K n t (.ref a) σ H Qn := ⟨a, xs, rfl, h, l, q⟩
theorem st_gunl {n : Nat} {t : TGs} {a : Addr} {xs : List V} (h : SqL K H a xs) (l : xs.length = n) (q : t xs σ H Qn) : gUnl K n t (.ref a) σ H Qn := ⟨a, xs, rfl, h, l, q⟩
theorem st_gcons {t : TG} {u : TGs} {xs : List V} (q : t x σ H fun σ1 H1 => u xs σ1 H1 Qn) : gCons t u (x :: xs) σ H Qn := ⟨x, xs, rfl, q⟩
theorem st_gnil (q : Qn σ H) : gNil [] σ H Qn := ⟨rfl, q⟩
/-- while, by a word of the measure and the state -/
def lower (W : Nat → L2.St → Hp → Prop) (m : Nat) : L2.St → Hp → Prop := fun σ H => ∃ m', m' < m ∧ W m' σ H
def whB (W : Nat → L2.St → Hp → Prop) (m : Nat) (tw : TS) (D : Ends) (σ : L2.St) (b : Bool) (H : Hp) : Prop :=
  if b = true then ∃ N : L2.St → Hp → Prop, (∀ σ' H', N σ' H' → ∃ m', m' < m ∧ W m' σ' H') ∧ tw { D with nx := N, ct := N, bk := D.nx } σ H else D.nx σ H
theorem st_while {tl : TT} (W : Nat → L2.St → Hp → Prop) (m0 : Nat) (h0 : W m0 σ H) (hs : ∀ m σ1 H1, W m σ1 H1 → tl σ1 H1 fun b H2 => whB W m tw D σ1 b H2) : tWhile tl tw D σ H :=
  ⟨W, ⟨m0, h0⟩, hs⟩
theorem whB_t {W : Nat → L2.St → Hp → Prop} {m : Nat} {b : Bool} (h : b = true) (q : tw { D with nx := lower W m, ct := lower W m, bk := D.nx } σ H) : whB W m tw D σ b H := by
  show if b = true then _ else _
  rw [if_pos h]
  exact ⟨lower W m, fun _ _ z => z, q⟩
theorem whB_f {W : Nat → L2.St → Hp → Prop} {m : Nat} {b : Bool} (h : b = false) (q : D.nx σ H) : whB W m tw D σ b H := by
  show if b = true then _ else _
  rw [h, if_neg Bool.false_ne_true]
  exact q
end
end Lw

/-! ## Defs of the text: where they stand, what they promise -/
namespace Lw
open PySem PySem.Spec PyProof.Rows L2
def top (i : Nat) : Stmt := PySem.Challenge.pw_logworth_s01_answers.main.body.getD i (.Pass ⟨0, 0, 0, 0⟩)
/-- the def x of the text stands at a place that the module's name x holds -/
def Has (K : PySem.W.Frag) (mg : Str → Option Value) (x : Str) (st : Stmt) (ps : List Str) : Prop :=
  ∃ (f : Addr) (fd : FuncData), mg x = some (.ref f) ∧ Fun K x x st f fd ∧ Binds K fd ps []
/-- .. and keeps a promise -/
def Ok (P : Program) (w : World) (K : PySem.W.Frag) (mg : Str → Option Value) (base : Heap) (x : Str) (k : Nat) (ps : List Str) (sp : Sp) : Prop :=
  ∃ (f : Addr) (fd : FuncData), mg x = some (.ref f) ∧ PySem.W.keepIn K (.ref f) = true ∧ Binds K fd ps [] ∧ FnOk P w K mg base CX0 k f fd ps sp
section
variable {P : Program} {w : World} {K : PySem.W.Frag} {mg : Str → Option Value} {base : Heap}
theorem ok_of {x : Str} {st : Stmt} {N ps : List Str} {k : Nat} {sp : Sp} (h : Has K mg x st ps) (S : FnScope N ps (defScope st)) (len : ∀ vs H Q E, sp vs H Q E → vs.length = ps.length)
    (hbody : ∀ (f : Addr) (cdv : Value) (A : Around) (outer : List Env) (s : Shared) (H : Hp) (vs : List V) (Q : VK) (E : XK), Room k (A.deeper (envOfC x (defScope st) s.heap.objs.size f cdv)) → sp vs H Q E →
      ∃ t, PSs (cxOf CX0 P w K mg base N x (defScope st) f cdv A outer s H E).nox (defBody st) t ∧ t { nx := fun _ H' => Q .non H', rt := Q } (start N vs) H) : Ok P w K mg base x (k + 1) ps sp := by
  obtain ⟨f, fd, h1, F, b⟩ := h
  exact ⟨f, fd, h1, F.kp, b, F.ok S len fun cdv A outer s H vs Q E hr h => hbody f cdv A outer s H vs Q E hr h⟩
end
section
variable {X : Cx} {k : Nat} {ps : List Str} {sp : Sp} {x : Str} {p pos : Pos} {e : Expr} {es : List Expr} {t : TA}
theorem pe_go (O : Ok X.prog X.w X.K X.mg X.base x k ps sp) (hr : Room k X.A) (hg : Gl X x) (ha : PA X (e :: es) t)
    (hdb : (x == ("__debug__" : Str)) = false := by decide) (he : starEach (e :: es) X.env = (false, eval e X.env) :: starEach es X.env := by rfl) (hpl : (backTo pos (starEach es X.env)).any (·.1) = false := by rfl) :
    PE X (.Call (.Name x p) (e :: es) [] pos) (tCall sp [] E0 t) := by
  obtain ⟨f, fd, h1, h2, h3, F⟩ := O
  exact pe_call F hr hg h1 h2 h3 .nil pass0 ha hdb he hpl
theorem pe_globI {i : Int} (hg : Gl X x) (hm : ∃ u, X.mg x = some (.int i u)) (hd : (x == ("__debug__" : Str)) = false := by decide) : PE X (.Name x pos) (tC (.int i)) := by
  obtain ⟨u, hm⟩ := hm
  exact pe_glob hg hm ⟨u, rfl⟩ hd
theorem pe_globR {a : Addr} (hg : Gl X x) (hm : X.mg x = some (.ref a)) (hd : (x == ("__debug__" : Str)) = false := by decide) : PE X (.Name x pos) (tC (.ref a)) := pe_glob hg hm rfl hd
end
/-! ### built-ins by name -/
def rAbs : List V → Hp → VK → Prop := fun xs H Q => ∃ i, xs = [.int i] ∧ Q (.int (if i < 0 then -i else i)) H
def rLen (K : PySem.W.Frag) : List V → Hp → VK → Prop := fun xs H Q => ∃ p ys, xs = [.ref p] ∧ (SqL K H p ys ∨ SqT K H p ys) ∧ Q (.int ys.length) H
def rList (K : PySem.W.Frag) : List V → Hp → VK → Prop := fun xs H Q => ∃ p ys, xs = [.ref p] ∧ (SqL K H p ys ∨ SqT K H p ys) ∧ ∀ l, H l = none → Q (.ref l) (upd H l (.lst ys))
theorem cb_abs {X : Cx} : CallR X (.builtin "abs") rAbs := call_abs
theorem cb_len {X : Cx} : CallR X (.builtin "len") (rLen X.K) := call_len_seq
theorem cb_list {X : Cx} : CallR X (.type "list") (rList X.K) := call_list_of
/-! the same with the written part's letter -/
theorem ix_listK {X : Cx} {K : PySem.W.Frag} (h : X.K = K) : IxR X (rIxL K) := by subst h; exact ix_list
theorem ix_tupK {X : Cx} {K : PySem.W.Frag} (h : X.K = K) : IxR X (rIxT K) := by subst h; exact ix_tup
theorem cb_lenK {X : Cx} {K : PySem.W.Frag} (h : X.K = K) : CallR X (.builtin "len") (rLen K) := by subst h; exact cb_len
theorem cb_listK {X : Cx} {K : PySem.W.Frag} (h : X.K = K) : CallR X (.type "list") (rList K) := by subst h; exact cb_list
theorem sl_listK {X : Cx} {K : PySem.W.Frag} (h : X.K = K) : SlR X (rSlL K) := by subst h; exact sl_list
theorem cr_sumK {X : Cx} {K : PySem.W.Frag} (h : X.K = K) (hc : X.calm = true) : CallR X (.builtin "sum") (rSum K) := by subst h; exact cr_sum hc
theorem pg_tupK {X : Cx} {K : PySem.W.Frag} {es : List Expr} {k : Nat} {pos : Pos} {t : TGs} {n : Nat} (hk : X.K = K) (hc : X.calm = true) (h : PGs X es t)
    (hn : (assignEach es X.env).length = n := by rfl) (hst : (assignEach es X.env).findIdx? (·.1) = none := by rfl) : PG X (.Tuple es k pos) (gTup K n t) := by subst hk; exact pg_tup hc h hn hst
theorem pg_unlK {X : Cx} {K : PySem.W.Frag} {es : List Expr} {k : Nat} {pos : Pos} {t : TGs} {n : Nat} (hk : X.K = K) (hc : X.calm = true) (h : PGs X es t)
    (hn : (assignEach es X.env).length = n := by rfl) (hst : (assignEach es X.env).findIdx? (·.1) = none := by rfl) : PG X (.Tuple es k pos) (gUnl K n t) := by subst hk; exact pg_unl hc h hn hst
theorem pe_fldK {X : Cx} {K : PySem.W.Frag} {e : Expr} {f : Str} {pos : Pos} {ta : TE} (hk : X.K = K) (he : PE X e ta) (hb : attributeBase e f X.env (eval e X.env) = eval e X.env) : PE X (.Attribute e f pos) (tFld K ta f) := by subst hk; exact pe_fld he hb
section
variable {K : PySem.W.Frag} {H : Hp} {Q : VK}
theorem st_abs {i : Int} (q : Q (.int ((i.natAbs : Nat) : Int)) H) : rAbs [.int i] H Q := ⟨i, rfl, by rw [show (if i < 0 then -i else i) = ((i.natAbs : Nat) : Int) by omega]; exact q⟩
theorem st_len {p : Addr} {xs : List V} (h : SqL K H p xs) (q : Q (.int ((xs.length : Nat) : Int)) H) : rLen K [.ref p] H Q := ⟨p, xs, rfl, .inl h, q⟩
theorem st_list {p : Addr} {xs : List V} (h : SqL K H p xs) (q : ∀ l H2, H l = none → Same H H2 → H2 l = some (.lst xs) → Q (.ref l) H2) : rList K [.ref p] H Q := ⟨p, xs, rfl, .inl h, new_any q⟩
theorem st_sum {p : Addr} {ns : List Int} (h : SqL K H p (ns.map V.int)) (q : Q (.int ns.sum) H) : rSum K [.ref p] H Q := ⟨p, ns, rfl, h, q⟩
end
def fld (K : PySem.W.Frag) (f : Str) (Q : VK) (x : V) (H : Hp) : Prop := ∃ a C dx fs v, x = .ref a ∧ H a = some (.ins C dx fs) ∧ Cls K C ∧ NoAttr K C f ∧ fs.lookup f = some v ∧ Q v H
theorem st_fld {K : PySem.W.Frag} {σ : L2.St} {H : Hp} {Q : VK} {ta : TE} {f : Str} (q : ta σ H fun x H1 => fld K f Q x H1) : tFld K ta f σ H Q := q
def sfld (K : PySem.W.Frag) (f : Str) (y : V) (D : Ends) (σ : L2.St) (x : V) (H : Hp) : Prop := ∃ a C dx fs, x = .ref a ∧ H a = some (.ins C dx fs) ∧ Cls K C ∧ NoAttr K C f ∧ fs.length < 1000 ∧ D.nx σ (upd H a (.ins C dx (putF f y fs)))
theorem st_sfld {K : PySem.W.Frag} {σ : L2.St} {H : Hp} {D : Ends} {ta tv : TE} {f : Str} (q : tv σ H fun y H1 => ta σ H1 fun x H2 => sfld K f y D σ x H2) : sFld K ta tv f D σ H := q
theorem st_gsub {σ : L2.St} {H : Hp} {to ti : TE} {t : TSet} {x : V} {Qn : L2.St → Hp → Prop} (q : to σ H fun o H1 => ti σ H1 fun i H2 => t o i x H2 fun H3 => Qn σ H3) : gSub to ti t x σ H Qn := q
theorem st_setL {H : Hp} {p : Addr} {xs : List V} {k : Nat} {v : V} {Q : Hp → Prop} (h : H p = some (.lst xs)) (hk : k < xs.length) (q : Q (upd H p (.lst (xs.set k v)))) : rSetL (.ref p) (.int (k : Int)) v H Q := by
  refine ⟨p, xs, _, k, rfl, rfl, h, ?_, q⟩
  unfold ixN
  rw [if_pos (by omega), if_pos (by omega), Int.toNat_natCast]
def meth1 (C : Addr) (m : Str) (sp : Sp) (E : XK) (t : TA) (σ : L2.St) (Q : VK) (x : V) (H : Hp) : Prop := ∃ a dx fs, x = .ref a ∧ H a = some (.ins C dx fs) ∧ fs.lookup m = none ∧ t σ H fun vs H2 => sp (x :: (vs ++ [])) H2 Q E
theorem st_meth {σ : L2.St} {H : Hp} {Q : VK} {ta : TE} {t : TA} {C : Addr} {m : Str} {sp : Sp} {E : XK} (q : ta σ H fun x H1 => meth1 C m sp E t σ Q x H1) : tMeth C m sp [] E ta t σ H Q := q
/-! ### methods of the one class -/
def HasM (K : PySem.W.Frag) (C : Addr) (x : Str) (st : Stmt) (ps : List Str) : Prop :=
  ∃ (f : Addr) (fd : FuncData) (q : Str), Fun K x q st f fd ∧ Binds K fd ps [] ∧ PySem.W.findIn K (.ref C) x = some (some (.ref f)) ∧ PySem.W.isFn K (.ref f) = true
def OkM (P : Program) (w : World) (K : PySem.W.Frag) (mg : Str → Option Value) (base : Heap) (C : Addr) (x : Str) (k : Nat) (ps : List Str) (sp : Sp) : Prop :=
  ∃ (f : Addr) (fd : FuncData), Meth K C x f ∧ Binds K fd ps [] ∧ FnOk P w K mg base CX0 k f fd ps sp
/-- __init__; what makes the class makeable -/
def OkI (P : Program) (w : World) (K : PySem.W.Frag) (mg : Str → Option Value) (base : Heap) (C : Addr) (k : Nat) (ps : List Str) (sp : Sp) : Prop :=
  ∃ (f : Addr) (fd : FuncData), Mk K C f ∧ Binds K fd ps [] ∧ FnOk P w K mg base CX0 k f fd ps sp
section
variable {P : Program} {w : World} {K : PySem.W.Frag} {mg : Str → Option Value} {base : Heap} {C : Addr}
theorem okM_of {x : Str} {st : Stmt} {N ps : List Str} {k : Nat} {sp : Sp} (h : HasM K C x st ps) (S : FnScope N ps (defScope st)) (len : ∀ vs H Q E, sp vs H Q E → vs.length = ps.length)
    (hbody : ∀ (f : Addr) (q : Str) (cdv : Value) (A : Around) (outer : List Env) (s : Shared) (H : Hp) (vs : List V) (Q : VK) (E : XK), Room k (A.deeper (envOfC q (defScope st) s.heap.objs.size f cdv)) → sp vs H Q E →
      ∃ t, PSs (cxOf CX0 P w K mg base N q (defScope st) f cdv A outer s H E).nox (defBody st) t ∧ t { nx := fun _ H' => Q .non H', rt := Q } (start N vs) H) : OkM P w K mg base C x (k + 1) ps sp := by
  obtain ⟨f, fd, q, F, b, h1, h2⟩ := h
  exact ⟨f, fd, ⟨h1, h2, F.kp⟩, b, F.ok S len fun cdv A outer s H vs Q E hr h => hbody f q cdv A outer s H vs Q E hr h⟩
theorem okI_of {st : Stmt} {N ps : List Str} {k : Nat} {sp : Sp} (h : HasM K C "__init__" st ps ∧ PySem.W.makesIn K C = true ∧ PySem.W.keepIn K (.ref C) = true) (S : FnScope N ps (defScope st)) (len : ∀ vs H Q E, sp vs H Q E → vs.length = ps.length)
    (hbody : ∀ (f : Addr) (q : Str) (cdv : Value) (A : Around) (outer : List Env) (s : Shared) (H : Hp) (vs : List V) (Q : VK) (E : XK), Room k (A.deeper (envOfC q (defScope st) s.heap.objs.size f cdv)) → sp vs H Q E →
      ∃ t, PSs (cxOf CX0 P w K mg base N q (defScope st) f cdv A outer s H E).nox (defBody st) t ∧ t { nx := fun _ H' => Q .non H', rt := Q } (start N vs) H) : OkI P w K mg base C (k + 1) ps sp := by
  obtain ⟨⟨f, fd, q, F, b, h1, h2⟩, h3, h4⟩ := h
  exact ⟨f, fd, ⟨h3, h1, h2, h4⟩, b, F.ok S len fun cdv A outer s H vs Q E hr h => hbody f q cdv A outer s H vs Q E hr h⟩
end
section
variable {X : Cx} {k : Nat} {ps : List Str} {sp : Sp} {m x : Str} {p pos apos : Pos} {o e : Expr} {es : List Expr} {t : TA} {to : TE} {C : Addr}
theorem pe_goM {pl : Sem Bool} (he : PE X o to) (c : Cls X.K C) (O : OkM X.prog X.w X.K X.mg X.base C m k ps sp) (hr : Room k X.A) (ha : PA X (e :: es) t)
    (hst : starEach (e :: es) X.env = (false, eval e X.env) :: starEach es X.env := by rfl) (hpl : (backTo pos (starEach es X.env)).any (·.1) = false := by rfl)
    (ht : eval (.Call (.Attribute o m apos) (e :: es) [] pos) X.env = (do
      let ov ← eval o X.env
      standAt apos.atName
      let (f, first) ← holding [ov] (getMethod ov m pl)
      callWith pos f first (backTo pos (starEach (e :: es) X.env)) (backToKw pos (keywordEach [] X.env))) := by rfl) :
    PE X (.Call (.Attribute o m apos) (e :: es) [] pos) (tMeth C m sp [] E0 to t) := by
  obtain ⟨f, fd, h1, h2, F⟩ := O
  exact pe_meth he c h1 F hr h2 .nil pass0 ha hst hpl ht
theorem pe_goM0 {pl : Sem Bool} (he : PE X o to) (c : Cls X.K C) (O : OkM X.prog X.w X.K X.mg X.base C m k ps sp) (hr : Room k X.A)
    (ht : eval (.Call (.Attribute o m apos) [] [] pos) X.env = (do
      let ov ← eval o X.env
      standAt apos.atName
      let (f, first) ← holding [ov] (getMethod ov m pl)
      callWith pos f first (backTo pos (starEach [] X.env)) (backToKw pos (keywordEach [] X.env))) := by rfl) :
    PE X (.Call (.Attribute o m apos) [] [] pos) (tMeth C m sp [] E0 to tNil) := by
  obtain ⟨f, fd, h1, h2, F⟩ := O
  exact pe_meth0 he c h1 F hr h2 .nil pass0 ht
theorem pe_goI (O : OkI X.prog X.w X.K X.mg X.base C k ps sp) (hr : Room (k + 1) X.A) (hg : Gl X x) (hm : X.mg x = some (.ref C)) (ha : PA X (e :: es) t)
    (hdb : (x == ("__debug__" : Str)) = false := by decide) (he : starEach (e :: es) X.env = (false, eval e X.env) :: starEach es X.env := by rfl) (hpl : (backTo pos (starEach es X.env)).any (·.1) = false := by rfl) :
    PE X (.Call (.Name x p) (e :: es) [] pos) (tMake C sp [] E0 t) := by
  obtain ⟨f, fd, h1, h2, F⟩ := O
  exact pe_make h1 F hr hg hm h2 .nil pass0 ha hdb he hpl
end
/-- a tuple of the written part -/
def KT (K : PySem.W.Frag) (a : Addr) (xs : List V) : Prop :=
  ∃ (o : Obj) (its : Array Value) (n : Nat), K.lookup a = some o ∧ o.cls = .type "tuple" ∧ o.data = .seq its n ∧ its.size ≤ sizeLine ∧ Vals xs its.toList
theorem KT.sq {K : PySem.W.Frag} {a : Addr} {xs : List V} (h : KT K a xs) (H : Hp) : SqT K H a xs := .inr h
/-- what the top has written: built-ins' names free, constants -/
structure Tx (K : PySem.W.Frag) (mg : Str → Option Value) (az an aw d1 d2 d3 C : Addr) : Prop where
  b_len : mg "len" = none
  b_abs : mg "abs" = none
  b_sum : mg "sum" = none
  b_list : mg "list" = none
  b_sorted : mg "sorted" = none
  b_range : mg "range" = none
  b_zip : mg "zip" = none
  m_ZERO : mg "ZERO" = some (.ref az)
  z : KT K az [.int 0, .int 1]
  m_NO_STUDY : ∃ u, mg "NO_STUDY" = some (.int (-11) u)
  m_NOT_THERE : ∃ u, mg "NOT_THERE" = some (.int (-2) u)
  m_OUTSIDE : ∃ u, mg "OUTSIDE" = some (.int (-22) u)
  m_FULL : ∃ u, mg "FULL" = some (.int (-28) u)
  m_NOT_ENOUGH : ∃ u, mg "NOT_ENOUGH" = some (.int (-33) u)
  m_POLICIES : ∃ u, mg "POLICIES" = some (.int 3 u)
  m_MOST_CONTEXTS : ∃ u, mg "MOST_CONTEXTS" = some (.int 6 u)
  m_MOST_ACTIONS : ∃ u, mg "MOST_ACTIONS" = some (.int 5 u)
  m_MOST_EVENTS : ∃ u, mg "MOST_EVENTS" = some (.int 40 u)
  m_MOST_REWARD : ∃ u, mg "MOST_REWARD" = some (.int 100 u)
  m_MOST_PART : ∃ u, mg "MOST_PART" = some (.int 1000 u)
  m_MOST_WEIGHT : ∃ u, mg "MOST_WEIGHT" = some (.int 1000 u)
  m_MOST_KIND : ∃ u, mg "MOST_KIND" = some (.int 3 u)
  m_MOST_LIMIT : ∃ u, mg "MOST_LIMIT" = some (.int 100000 u)
  m_MOST_FACTOR : ∃ u, mg "MOST_FACTOR" = some (.int 10000 u)
  m_MOST_ROUNDS : ∃ u, mg "MOST_ROUNDS" = some (.int 50 u)
  m_MOST_RANKS : ∃ u, mg "MOST_RANKS" = some (.int 12 u)
  m_MOST_GAIN : ∃ u, mg "MOST_GAIN" = some (.int 100 u)
  m_MOST_RANK_NUMBER : ∃ u, mg "MOST_RANK_NUMBER" = some (.int 1000 u)
  m_DIRECT : ∃ u, mg "DIRECT" = some (.int 0 u)
  m_INVERSE : ∃ u, mg "INVERSE" = some (.int 1 u)
  m_CLIPPED : ∃ u, mg "CLIPPED" = some (.int 2 u)
  m_FACTOR : ∃ u, mg "FACTOR" = some (.int 1103515245 u)
  m_STEP : ∃ u, mg "STEP" = some (.int 12345 u)
  m_SEEDS : ∃ u, mg "SEEDS" = some (.int 2147483648 u)
  m_PART : ∃ u, mg "PART" = some (.int 65536 u)
  m_FINE : ∃ u, mg "FINE" = some (.int 0 u)
  m_CREATE : ∃ u, mg "CREATE" = some (.int 0 u)
  m_Study : mg "Study" = some (.ref C)
  cl : Cls K C
  n_contexts : NoAttr K C "contexts"
  n_actions : NoAttr K C "actions"
  n_events : NoAttr K C "events"
  n_policies : NoAttr K C "policies"
  n_model : NoAttr K C "model"
  n_truth_weights : NoAttr K C "truth_weights"
  n_truth_rewards : NoAttr K C "truth_rewards"
  m_NUMBERS : mg "NUMBERS" = some (.ref an)
  nb : KT K an ((nz [2, 5, 0, 4, 2, 2, 1, 0, 2, 3, 3, 1, 1, 1, 3, 4, 4, 3, 1, 1, 1, 4, 2, 5, 1, 0, 0, 0, 0]).map V.int)
  m_WITH_LIST : mg "WITH_LIST" = some (.ref aw)
  wl : KT K aw ((nz [4, 6, 8, 24, 25, 26, 27]).map V.int)
  m_DEEDS_changes : mg "DEEDS_changes" = some (.ref d1)
  m_DEEDS_questions : mg "DEEDS_questions" = some (.ref d2)
  m_DEEDS_outlooks : mg "DEEDS_outlooks" = some (.ref d3)
end Lw

/-! ## Loops and comprehensions -/
namespace Lw
open PySem PySem.Spec PyProof.Rows L2
section
variable {K : PySem.W.Frag} {σ : L2.St} {H H0 : Hp} {Q : VK} {D : Ends} {g : TG} {tb : TS} {a b : Addr} {xs ys : List V}
/-! ### for -/
def forL (K : PySem.W.Frag) (g : TG) (tb : TS) (D : Ends) (σ : L2.St) (x : V) (H : Hp) : Prop := ∃ a, x = .ref a ∧ (∃ xs, SqL K H a xs) ∧
  ∃ W : Nat → Nat → L2.St → Hp → Prop, (∃ m, W 0 m σ H) ∧ ∀ i m σ H, W i m σ H →
    ((Itl K a).stop i H ∧ D.nx σ H) ∨ ((Itl K a).go i H ∧ ∃ N : L2.St → Hp → Prop, (∀ σ' H', N σ' H' → ∃ m', m' < m ∧ W (i + 1) m' σ' H') ∧ ∀ x H', (Itl K a).yld i H x H' → g x σ H' fun σ2 H2 => tb { D with nx := N, ct := N, bk := D.nx } σ2 H2)
theorem st_forL {tl : TE} (q : tl σ H fun x H1 => forL K g tb D σ x H1) : tFor (iList K tl) g tb D σ H := q
/-- over a list: what H0 knows stays -/
theorem go_forL (e0 : Same H0 H) (hx : SqL K H0 a xs) (Pv : Nat → L2.St → Hp → Prop) (h0 : Pv 0 σ H)
    (hs : ∀ i x σ1 H1, xs[i]? = some x → Same H0 H1 → Pv i σ1 H1 → g x σ1 H1 fun σ2 H2 => tb { D with nx := fun σ3 H3 => Same H0 H3 ∧ Pv (i + 1) σ3 H3, ct := fun σ3 H3 => Same H0 H3 ∧ Pv (i + 1) σ3 H3, bk := D.nx } σ2 H2)
    (hd : ∀ σ1 H1, Same H0 H1 → Pv xs.length σ1 H1 → D.nx σ1 H1) : forL K g tb D σ (.ref a) H :=
  ⟨a, rfl, ⟨xs, sqL_up e0 hx⟩, for_list (K := K) (a := a) (xs := xs) (fun i σ1 H1 => Same H0 H1 ∧ Pv i σ1 H1) ⟨e0, h0⟩ (fun _ _ _ _ p => sqL_up p.1 hx) (fun i x σ1 H1 hi p => hs i x σ1 H1 hi p.1 p.2) (fun σ1 H1 p => hd σ1 H1 p.1 p.2)⟩
def forR (g : TG) (tb : TS) (D : Ends) (σ : L2.St) (vs : List V) (H : Hp) : Prop := ∃ j : Int, vs = [.int j] ∧ -(2 ^ 62) ≤ j ∧ j < 2 ^ 62 ∧
  ∃ W : Nat → Nat → L2.St → Hp → Prop, (∃ m, W 0 m σ H) ∧ ∀ i m σ H, W i m σ H →
    ((Itr 0 j.toNat).stop i H ∧ D.nx σ H) ∨ ((Itr 0 j.toNat).go i H ∧ ∃ N : L2.St → Hp → Prop, (∀ σ' H', N σ' H' → ∃ m', m' < m ∧ W (i + 1) m' σ' H') ∧ ∀ x H', (Itr 0 j.toNat).yld i H x H' → g x σ H' fun σ2 H2 => tb { D with nx := N, ct := N, bk := D.nx } σ2 H2)
theorem st_forR {ta : TA} (q : ta σ H fun vs H1 => forR g tb D σ vs H1) : tFor (iRng1 ta) g tb D σ H := q
theorem go_forR {n : Nat} (hn : n ≤ 1000000) (e0 : Same H0 H) (Pv : Nat → L2.St → Hp → Prop) (h0 : Pv 0 σ H)
    (hs : ∀ (i : Nat) σ1 H1, i < n → Same H0 H1 → Pv i σ1 H1 → g (.int (i : Int)) σ1 H1 fun σ2 H2 => tb { D with nx := fun σ3 H3 => Same H0 H3 ∧ Pv (i + 1) σ3 H3, ct := fun σ3 H3 => Same H0 H3 ∧ Pv (i + 1) σ3 H3, bk := D.nx } σ2 H2)
    (hd : ∀ σ1 H1, Same H0 H1 → Pv n σ1 H1 → D.nx σ1 H1) : forR g tb D σ [.int (n : Int)] H :=
  ⟨_, rfl, by omega, by omega, for_range (lo := 0) (n := ((n : Nat) : Int).toNat) (fun i σ1 H1 => Same H0 H1 ∧ Pv i σ1 H1) ⟨e0, h0⟩
    (fun i σ1 H1 hi p => by
      have h := hs i σ1 H1 (by omega) p.1 p.2
      rw [Int.zero_add]
      exact h)
    (fun σ1 H1 p => hd σ1 H1 p.1 (by rw [Int.toNat_natCast] at p; exact p.2))⟩
/-! ### comprehensions -/
/-- the new list D so far -/
def accD (R : Addr → Hp → V → β → Prop) (D : Addr) (zs : List β) (H : Hp) : Prop := ∃ acc, H D = some (.lst acc) ∧ All2 (R D H) acc zs
def lcTurn (g : TG) (tt : TT) (te : TE) (vs : List Nat) (σ : L2.St) (D : Addr) (x : V) (Nx : Hp → Prop) (H : Hp) : Prop :=
  g x (wipe σ vs) H fun σ2 H2 => wipe σ2 vs = wipe σ vs ∧ tt σ2 H2 fun b H3 => if b = true then te σ2 H3 fun y H4 => ∃ acc, H4 D = some (.lst acc) ∧ acc.length < sizeLine ∧ Nx (upd H4 D (.lst (acc ++ [y]))) else Nx H3
def lcW (J : It) (g : TG) (tt : TT) (te : TE) (vs : List Nat) (σ : L2.St) (H1 : Hp) (Q : VK) : Prop := ∀ D, H1 D = none → ∃ W : Nat → Nat → Hp → Prop, (∃ m, W 0 m (upd H1 D (.lst []))) ∧ ∀ i m H, W i m H →
  (J.stop i H ∧ Q (.ref D) H) ∨ (J.go i H ∧ ∃ Nx : Hp → Prop, (∀ H', Nx H' → ∃ m', m' < m ∧ W (i + 1) m' H') ∧ ∀ x H', J.yld i H x H' → g x (wipe σ vs) H' fun σ2 H2 => wipe σ2 vs = wipe σ vs ∧ tt σ2 H2 fun b H3 =>
    if b = true then te σ2 H3 fun y H4 => ∃ acc, H4 D = some (.lst acc) ∧ acc.length < sizeLine ∧ Nx (upd H4 D (.lst (acc ++ [y]))) else Nx H3)
def lcL (K : PySem.W.Frag) (g : TG) (tt : TT) (te : TE) (vs : List Nat) (σ : L2.St) (Q : VK) (x : V) (H : Hp) : Prop := ∃ a, x = .ref a ∧ (∃ xs, SqL K H a xs) ∧ lcW (Itl K a) g tt te vs σ H Q
def lcR (g : TG) (tt : TT) (te : TE) (vs : List Nat) (σ : L2.St) (Q : VK) (us : List V) (H : Hp) : Prop := ∃ j : Int, us = [.int j] ∧ -(2 ^ 62) ≤ j ∧ j < 2 ^ 62 ∧ lcW (Itr 0 j.toNat) g tt te vs σ H Q
def lcZ (K : PySem.W.Frag) (g : TG) (tt : TT) (te : TE) (vs : List Nat) (σ : L2.St) (Q : VK) (us : List V) (H : Hp) : Prop := ∃ a b xs ys, us = [.ref a, .ref b] ∧ SqL K H a xs ∧ SqL K H b ys ∧ lcW (Itz K a b) g tt te vs σ H Q
section
variable {tt : TT} {te tl : TE} {ta : TA} {vs : List Nat}
theorem st_lcL (q : tl σ H fun x H1 => lcL K g tt te vs σ Q x H1) : tLc (iList K tl) g tt te vs σ H Q := q
theorem st_lcR (q : ta σ H fun us H1 => lcR g tt te vs σ Q us H1) : tLc (iRng1 ta) g tt te vs σ H Q := q
theorem st_lcZ (q : ta σ H fun us H1 => lcZ K g tt te vs σ Q us H1) : tLc (iZip K ta) g tt te vs σ H Q := q
/-- what a turn that keeps its item is to reach; one that drops it -/
def kept (R : Addr → Hp → V → β → Prop) (H0 : Hp) (D : Addr) (zs : List β) (z : β) (H1 : Hp) (y : V) (H4 : Hp) : Prop := Same H1 H4 ∧ R D H4 y z
variable {β : Type} {R : Addr → Hp → V → β → Prop}
theorem acc_step {D : Addr} {zs : List β} {z : β} {y : V} {H1 H4 : Hp} (up : ∀ D H1 H2 v b, Same H1 H2 → R D H1 v b → R D H2 v b) (mu : ∀ D H1 acc o v b, H1 D = some (.lst acc) → R D H1 v b → R D (upd H1 D o) v b)
    (h : accD R D zs H1) (e : Same H1 H4) (r : R D H4 y z) : ∃ acc, H4 D = some (.lst acc) ∧ acc.length = zs.length ∧ accD R D (zs ++ [z]) (upd H4 D (.lst (acc ++ [y]))) := by
  obtain ⟨acc, h1, h2⟩ := h
  have h4 := e _ _ h1
  refine ⟨acc, h4, h2.len, acc ++ [y], upd_same, ?_⟩
  exact All2.app (h2.imp fun v b q => mu D H4 acc _ v b h4 (up D H1 H4 v b e q)) (All2.one (mu D H4 acc _ y z h4 r))
/-- over a list, no test -/
theorem go_lcL {zs : List β} (hzs : xs.length = zs.length) (hz : xs.length ≤ 100000) (e0 : Same H0 H) (hx : SqL K H0 a xs)
    (up : ∀ D H1 H2 v b, Same H1 H2 → R D H1 v b → R D H2 v b) (mu : ∀ D H1 acc o v b, H1 D = some (.lst acc) → R D H1 v b → R D (upd H1 D o) v b)
    (hs : ∀ (D : Addr) (i : Nat) (x : V) z H1, xs[i]? = some x → zs[i]? = some z → H0 D = none → Same H0 H1 → (∃ acc, H1 D = some (.lst acc)) → ∀ Q' : VK, (∀ y H4, Same H1 H4 → R D H4 y z → Q' y H4) →
      g x (wipe σ vs) H1 fun σ2 H2 => wipe σ2 vs = wipe σ vs ∧ te σ2 H2 Q')
    (hd : ∀ p H2 ws, H p = none → Same H H2 → H2 p = some (.lst ws) → All2 (R p H2) ws zs → Q (.ref p) H2) : lcL K g tYes te vs σ Q (.ref a) H := by
  refine ⟨a, rfl, ⟨xs, sqL_up e0 hx⟩, fun D hD => ?_⟩
  have hD0 : H0 D = none := e0.free hD
  refine lc_list (K := K) (a := a) (xs := xs) (fun i H1 => Same H H1 ∧ accD R D (zs.take i) H1) ⟨same_new hD, [], upd_same, .nil⟩ (fun _ _ _ p => sqL_up (e0.trans p.1) hx) (fun i x H1 hi p => ?_) (fun H1 p => ?_)
  · have hlt : i < zs.length := by rw [← hzs]; exact (List.getElem?_eq_some_iff.mp hi).1
    have hz' : zs[i]? = some zs[i] := List.getElem?_eq_getElem hlt
    have h := hs D i x zs[i] H1 hi hz' hD0 (e0.trans p.1) (let ⟨acc, h1, _⟩ := p.2; ⟨acc, h1⟩) (fun y H4 => ∃ acc, H4 D = some (.lst acc) ∧ acc.length < sizeLine ∧ (Same H (upd H4 D (.lst (acc ++ [y]))) ∧ accD R D (zs.take (i + 1)) (upd H4 D (.lst (acc ++ [y]))))) (fun y H4 e r => ?_)
    · exact h
    · obtain ⟨acc, h1, h2, h3⟩ := acc_step up mu p.2 e r
      refine ⟨acc, h1, ?_, same_mut (p.1.trans e) hD, ?_⟩
      · rw [h2, List.length_take]
        refine Nat.lt_of_le_of_lt (m := 100000) ?_ (by decide)
        omega
      · rw [List.take_succ, hz']
        exact h3
  · obtain ⟨acc, h1, h2⟩ := p.2
    rw [hzs, List.take_length] at h2
    exact hd D H1 acc hD p.1 h1 h2
/-- over a list, with a test: none drops the item -/
theorem go_lcLt {zs : List (Option β)} (hzs : xs.length = zs.length) (hz : xs.length ≤ 100000) (e0 : Same H0 H) (hx : SqL K H0 a xs)
    (up : ∀ D H1 H2 v b, Same H1 H2 → R D H1 v b → R D H2 v b) (mu : ∀ D H1 acc o v b, H1 D = some (.lst acc) → R D H1 v b → R D (upd H1 D o) v b)
    (hs : ∀ (D : Addr) (i : Nat) (x : V) z H1, xs[i]? = some x → zs[i]? = some z → H0 D = none → Same H0 H1 → (∃ acc, H1 D = some (.lst acc)) → ∀ (Q' : VK) (N' : Hp → Prop), (∀ y H4 w, z = some w → Same H1 H4 → R D H4 y w → Q' y H4) → (∀ H4, z = none → Same H1 H4 → N' H4) →
      g x (wipe σ vs) H1 fun σ2 H2 => wipe σ2 vs = wipe σ vs ∧ tt σ2 H2 fun b H3 => cond b (te σ2 H3 Q') (N' H3))
    (hd : ∀ p H2 ws, H p = none → Same H H2 → H2 p = some (.lst ws) → All2 (R p H2) ws (zs.filterMap id) → Q (.ref p) H2) : lcL K g tt te vs σ Q (.ref a) H := by
  refine ⟨a, rfl, ⟨xs, sqL_up e0 hx⟩, fun D hD => ?_⟩
  have hD0 : H0 D = none := e0.free hD
  refine lc_list (K := K) (a := a) (xs := xs) (fun i H1 => Same H H1 ∧ accD R D ((zs.take i).filterMap id) H1) ⟨same_new hD, [], upd_same, .nil⟩ (fun _ _ _ p => sqL_up (e0.trans p.1) hx) (fun i x H1 hi p => ?_) (fun H1 p => ?_)
  · have hlt : i < zs.length := by rw [← hzs]; exact (List.getElem?_eq_some_iff.mp hi).1
    have hz' : zs[i]? = some zs[i] := List.getElem?_eq_getElem hlt
    have et : (zs.take (i + 1)).filterMap id = (zs.take i).filterMap id ++ (Option.toList zs[i]) := by
      rw [List.take_succ, hz', List.filterMap_append]
      congr 1
    refine hs D i x zs[i] H1 hi hz' hD0 (e0.trans p.1) (let ⟨acc, h1, _⟩ := p.2; ⟨acc, h1⟩) (fun y H4 => ∃ acc, H4 D = some (.lst acc) ∧ acc.length < sizeLine ∧ (Same H (upd H4 D (.lst (acc ++ [y]))) ∧ accD R D ((zs.take (i + 1)).filterMap id) (upd H4 D (.lst (acc ++ [y]))))) _ (fun y H4 w ew e r => ?_) (fun H4 ew e => ?_)
    · obtain ⟨acc, h1, h2, h3⟩ := acc_step up mu p.2 e r
      refine ⟨acc, h1, ?_, same_mut (p.1.trans e) hD, ?_⟩
      · rw [h2]
        have l1 := List.length_filterMap_le id (zs.take i)
        rw [List.length_take] at l1
        refine Nat.lt_of_le_of_lt (m := 100000) ?_ (by decide)
        omega
      · rw [et, ew]
        exact h3
    · refine ⟨p.1.trans e, ?_⟩
      rw [et, ew]
      obtain ⟨acc, h1, h2⟩ := p.2
      refine ⟨acc, e _ _ h1, ?_⟩
      show All2 (R D H4) acc ((zs.take i).filterMap id ++ [])
      rw [List.append_nil]
      exact h2.imp fun v b q => up D H1 H4 v b e q
  · obtain ⟨acc, h1, h2⟩ := p.2
    rw [hzs, List.take_length] at h2
    exact hd D H1 acc hD p.1 h1 h2
/-- over a range -/
theorem go_lcR {n : Nat} {zs : List β} (hzs : n = zs.length) (hz : n ≤ 100000) (e0 : Same H0 H)
    (up : ∀ D H1 H2 v b, Same H1 H2 → R D H1 v b → R D H2 v b) (mu : ∀ D H1 acc o v b, H1 D = some (.lst acc) → R D H1 v b → R D (upd H1 D o) v b)
    (hs : ∀ (D : Addr) (i : Nat) z H1, zs[i]? = some z → i < n → H0 D = none → Same H0 H1 → (∃ acc, H1 D = some (.lst acc)) → ∀ Q' : VK, (∀ y H4, Same H1 H4 → R D H4 y z → Q' y H4) →
      g (.int (i : Int)) (wipe σ vs) H1 fun σ2 H2 => wipe σ2 vs = wipe σ vs ∧ te σ2 H2 Q')
    (hd : ∀ p H2 ws, H p = none → Same H H2 → H2 p = some (.lst ws) → All2 (R p H2) ws zs → Q (.ref p) H2) : lcR g tYes te vs σ Q [.int (n : Int)] H := by
  refine ⟨_, rfl, by omega, by omega, fun D hD => ?_⟩
  have hD0 : H0 D = none := e0.free hD
  refine lc_range (lo := 0) (n := ((n : Nat) : Int).toNat) (fun i H1 => Same H H1 ∧ accD R D (zs.take i) H1) ⟨same_new hD, [], upd_same, .nil⟩ (fun i H1 hi p => ?_) (fun H1 p => ?_)
  · rw [Int.toNat_natCast] at hi
    have hlt : i < zs.length := by omega
    have hz' : zs[i]? = some zs[i] := List.getElem?_eq_getElem hlt
    have h := hs D i zs[i] H1 hz' hi hD0 (e0.trans p.1) (let ⟨acc, h1, _⟩ := p.2; ⟨acc, h1⟩) (fun y H4 => ∃ acc, H4 D = some (.lst acc) ∧ acc.length < sizeLine ∧ (Same H (upd H4 D (.lst (acc ++ [y]))) ∧ accD R D (zs.take (i + 1)) (upd H4 D (.lst (acc ++ [y]))))) (fun y H4 e r => ?_)
    · rw [Int.zero_add]
      exact h
    · obtain ⟨acc, h1, h2, h3⟩ := acc_step up mu p.2 e r
      refine ⟨acc, h1, ?_, same_mut (p.1.trans e) hD, ?_⟩
      · rw [h2, List.length_take]
        refine Nat.lt_of_le_of_lt (m := 100000) ?_ (by decide)
        omega
      · rw [List.take_succ, hz']
        exact h3
  · rw [Int.toNat_natCast] at p
    obtain ⟨acc, h1, h2⟩ := p.2
    rw [hzs, List.take_length] at h2
    exact hd D H1 acc hD p.1 h1 h2
/-- over two lists of one length, with a test -/
theorem go_lcZt {zs : List (Option β)} (hxy : xs.length = ys.length) (hzs : xs.length = zs.length) (hz : xs.length ≤ 100000) (e0 : Same H0 H) (hx : SqL K H0 a xs) (hy : SqL K H0 b ys)
    (up : ∀ D H1 H2 v b, Same H1 H2 → R D H1 v b → R D H2 v b) (mu : ∀ D H1 acc o v b, H1 D = some (.lst acc) → R D H1 v b → R D (upd H1 D o) v b)
    (hs : ∀ (D : Addr) (i : Nat) (x y : V) (T : Addr) z H1, xs[i]? = some x → ys[i]? = some y → zs[i]? = some z → H0 D = none → Same H0 H1 → SqT K H1 T [x, y] → (∃ acc, H1 D = some (.lst acc)) → ∀ (Q' : VK) (N' : Hp → Prop), (∀ y H4 w, z = some w → Same H1 H4 → R D H4 y w → Q' y H4) → (∀ H4, z = none → Same H1 H4 → N' H4) →
      g (.ref T) (wipe σ vs) H1 fun σ2 H2 => wipe σ2 vs = wipe σ vs ∧ tt σ2 H2 fun b H3 => cond b (te σ2 H3 Q') (N' H3))
    (hd : ∀ p H2 ws, H p = none → Same H H2 → H2 p = some (.lst ws) → All2 (R p H2) ws (zs.filterMap id) → Q (.ref p) H2) : lcZ K g tt te vs σ Q [.ref a, .ref b] H := by
  refine ⟨a, b, xs, ys, rfl, sqL_up e0 hx, sqL_up e0 hy, fun D hD => ?_⟩
  have hD0 : H0 D = none := e0.free hD
  refine ⟨fun i m H1 => m = xs.length - i ∧ i ≤ xs.length ∧ Same H H1 ∧ accD R D ((zs.take i).filterMap id) H1, ⟨xs.length, by simp, Nat.zero_le _, same_new hD, [], upd_same, .nil⟩, ?_⟩
  rintro i m H1 ⟨rfl, hi, e1, p⟩
  have qx := sqL_up (e0.trans e1) hx
  have qy := sqL_up (e0.trans e1) hy
  by_cases hlt : i < xs.length
  · have hxi : xs[i]? = some xs[i] := List.getElem?_eq_getElem hlt
    have hyi : ys[i]? = some (ys[i]'(by omega)) := List.getElem?_eq_getElem (by omega)
    have hzi : zs[i]? = some (zs[i]'(by omega)) := List.getElem?_eq_getElem (by omega)
    have et : (zs.take (i + 1)).filterMap id = (zs.take i).filterMap id ++ (Option.toList (zs[i]'(by omega))) := by
      rw [List.take_succ, hzi, List.filterMap_append]
      congr 1
    refine .inr ⟨⟨xs, ys, _, _, qx, qy, hxi, hyi⟩, fun H' => Same H H' ∧ accD R D ((zs.take (i + 1)).filterMap id) H', fun H' p' => ⟨xs.length - (i + 1), by omega, rfl, hlt, p'⟩, fun v H' y => ?_⟩
    obtain ⟨T, x', y', rfl, hT, rfl, f1, f2⟩ := y
    have eT : Same H1 (upd H1 T (.tup [x', y'])) := same_new hT
    obtain ⟨acc0, a1, a2⟩ := id p
    have p2 : accD R D ((zs.take i).filterMap id) (upd H1 T (.tup [x', y'])) := ⟨acc0, eT _ _ a1, a2.imp fun v b q => up D _ _ v b eT q⟩
    refine hs D i x' y' T _ _ (f1 xs qx) (f2 ys qy) hzi hD0 ((e0.trans e1).trans eT) (SqT.of upd_same) ⟨acc0, eT _ _ a1⟩ (fun y H4 => ∃ acc, H4 D = some (.lst acc) ∧ acc.length < sizeLine ∧ (Same H (upd H4 D (.lst (acc ++ [y]))) ∧ accD R D ((zs.take (i + 1)).filterMap id) (upd H4 D (.lst (acc ++ [y]))))) _ (fun y H4 w ew e r => ?_) (fun H4 ew e => ?_)
    · obtain ⟨acc, h1, h2, h3⟩ := acc_step up mu p2 e r
      refine ⟨acc, h1, ?_, same_mut ((e1.trans eT).trans e) hD, ?_⟩
      · rw [h2]
        have l1 := List.length_filterMap_le id (zs.take i)
        rw [List.length_take] at l1
        refine Nat.lt_of_le_of_lt (m := 100000) ?_ (by decide)
        omega
      · rw [et, ew]
        exact h3
    · refine ⟨(e1.trans eT).trans e, ?_⟩
      rw [et, ew]
      obtain ⟨acc, h1, h2⟩ := p2
      refine ⟨acc, e _ _ h1, ?_⟩
      show All2 (R D H4) acc ((zs.take i).filterMap id ++ [])
      rw [List.append_nil]
      exact h2.imp fun v b q => up D _ H4 v b e q
  · have ei : i = xs.length := by omega
    subst ei
    refine .inl ⟨⟨xs, ys, qx, qy, Or.inl (Nat.le_refl _)⟩, ?_⟩
    obtain ⟨acc, h1, h2⟩ := p
    rw [hzs, List.take_length] at h2
    exact hd D H1 acc hD e1 h1 h2
end
end
/-- quotients as a comprehension's items -/
def RF (K : PySem.W.Frag) : Addr → Hp → V → Rw → Prop := fun _ H v r => Fq K H v r
theorem RF.up {K : PySem.W.Frag} : ∀ D H1 H2 v b, Same H1 H2 → RF K D H1 v b → RF K D H2 v b := fun _ _ _ _ _ e h => Fq.up e h
theorem RF.mu {K : PySem.W.Frag} : ∀ D H1 acc o v b, H1 D = some (.lst acc) → RF K D H1 v b → RF K D (upd H1 D o) v b := fun _ _ _ _ _ _ hD h => Fq.mut hD h
/-- ints -/
def RI : Addr → Hp → V → Int → Prop := fun _ _ v i => v = .int i
theorem RI.up : ∀ D H1 H2 v b, Same H1 H2 → RI D H1 v b → RI D H2 v b := fun _ _ _ _ _ _ h => h
theorem RI.mu : ∀ D H1 acc o v b, H1 D = some (.lst acc) → RI D H1 v b → RI D (upd H1 D o) v b := fun _ _ _ _ _ _ _ h => h
/-! ### append, extend, joined lists, stores -/
section
variable {K : PySem.W.Frag} {σ : L2.St} {H : Hp} {Q : VK} {to : TE} {t : TA} {T : String} {r : V → List V → Hp → VK → Prop} {p l b : Addr} {xs ys : List V} {y : V}
def bm1 (K : PySem.W.Frag) (T : String) (r : V → List V → Hp → VK → Prop) (t : TA) (σ : L2.St) (Q : VK) (x : V) (H : Hp) : Prop := tyV K T x H ∧ t σ H fun vs H2 => r x vs H2 Q
theorem st_bm (q : to σ H fun x H1 => bm1 K T r t σ Q x H1) : tBM K T r to t σ H Q := q
theorem bm_list (h : SqL K H p xs) (q : t σ H fun vs H2 => r (.ref p) vs H2 Q) : bm1 K "list" r t σ Q (.ref p) H := ⟨Or.inl ⟨rfl, _, h⟩, q⟩
theorem st_append (h : H l = some (.lst xs)) (hz : xs.length ≤ 100000) (q : Q .non (upd H l (.lst (xs ++ [y])))) : rAppend (.ref l) [y] H Q :=
  ⟨l, xs, y, rfl, rfl, h, Nat.lt_of_le_of_lt hz (by decide), q⟩
theorem st_extend (h : H l = some (.lst xs)) (hb : H b = some (.lst ys)) (hz : xs.length + ys.length ≤ 100000) (q : Q .non (upd H l (.lst (xs ++ ys)))) : rExtend (.ref l) [.ref b] H Q :=
  ⟨l, b, xs, ys, rfl, rfl, h, hb, Nat.le_trans hz (by decide), q⟩
theorem st_cat (h : H l = some (.lst xs)) (hb : H b = some (.lst ys)) (hz : xs.length + ys.length ≤ 100000) (q : ∀ p H2, H p = none → Same H H2 → H2 p = some (.lst (xs ++ ys)) → Q (.ref p) H2) : rCat (.ref l) (.ref b) H Q :=
  ⟨l, b, xs, ys, rfl, rfl, h, hb, Nat.le_trans hz (by decide), new_any q⟩
theorem st_rep {k : Nat} (h : H l = some (.lst xs)) (hk : k ≤ 1000) (hz : xs.length ≤ 100) (q : ∀ p H2, H p = none → Same H H2 → H2 p = some (.lst (List.replicate k xs).flatten) → Q (.ref p) H2) : rRep (.ref l) (.int (k : Int)) H Q := by
  refine ⟨l, _, xs, rfl, rfl, h, by omega, by omega, ?_, new_any q⟩
  rw [Int.toNat_natCast]
  refine Nat.le_trans (Nat.mul_le_mul hz hk) (by decide)
end
theorem sum_app (l m : List Rw) : (l ++ m).sum = l.sum + m.sum := by
  induction l with
  | nil => simp [Rat.zero_add]
  | cons x r ih => rw [List.cons_append, List.sum_cons, List.sum_cons, ih, Rat.add_assoc]
theorem sum_one (x : Rw) : ([x] : List Rw).sum = x := by
  rw [List.sum_cons, List.sum_nil, Rat.add_zero]
theorem sum_take1 {l : List Rw} {i : Nat} {x : Rw} (h : l[i]? = some x) : (l.take (i + 1)).sum = (l.take i).sum + x := by
  rw [List.take_succ, h, sum_app]
  show _ + ([x] : List Rw).sum = _
  rw [sum_one]
/-! ### a heap without one list that changes -/
def hide (H : Hp) (l : Addr) : Hp := fun b => if b = l then none else H b
theorem hide_at {H : Hp} {l : Addr} : hide H l l = none := if_pos rfl
theorem hide_ne {H : Hp} {l b : Addr} (h : b ≠ l) : hide H l b = H b := if_neg h
theorem same_hide {H : Hp} {l : Addr} : Same (hide H l) H := fun b o e => by
  by_cases h : b = l
  · subst h
    rw [hide_at] at e
    cases e
  · rw [hide_ne h] at e
    exact e
theorem same_hide_of {H H' : Hp} {l : Addr} (e : Same H H') (h : H l = none) : Same H (hide H' l) := fun b o x => by
  rw [hide_ne (ne_of_none x h)]
  exact e _ _ x
theorem sqT_hide {K : PySem.W.Frag} {H : Hp} {a l : Addr} {xs ys : List V} (hl : H l = some (.lst ys)) (h : SqT K H a xs) : SqT K (hide H l) a xs := by
  rcases h with (h | ⟨ob, h⟩) | h
  · exact .inl (.inl (by rw [hide_ne (ne_of h hl (by intro z; cases z))]; exact h))
  · exact .inl (.inr ⟨ob, by rw [hide_ne (ne_of h hl (by intro z; cases z))]; exact h⟩)
  · exact .inr h
theorem Fq.hide {K : PySem.W.Frag} {H : Hp} {v : V} {r : Rw} {l : Addr} {ys : List V} (hl : H l = some (.lst ys)) (h : Fq K H v r) : Fq K (hide H l) v r :=
  let ⟨p, a, b⟩ := h
  ⟨p, a, sqT_hide hl b⟩
theorem Eq4.hide {K : PySem.W.Frag} {H : Hp} {v : V} {x : Ev} {l : Addr} {ys : List V} (hl : H l = some (.lst ys)) (h : Eq4 K H v x) : Eq4 K (hide H l) v x :=
  let ⟨p, q, a, b, c⟩ := h
  ⟨p, q, a, sqT_hide hl b, c.hide hl⟩
/-! ### slices, a list backwards, sorted downwards -/
def isI (x : V) (Q : Option Int → Hp → Prop) (H : Hp) : Prop := ∃ i, x = .int i ∧ Q (some i) H
section
variable {K : PySem.W.Frag} {σ : L2.St} {H : Hp} {Q : VK} {te : TE} {tl th : TO} {a : Addr} {xs : List V} {lo hi : Option Int}
theorem st_sl {r : V → Option Int → Option Int → Hp → VK → Prop} (q : te σ H fun x H1 => tl σ H1 fun l H2 => th σ H2 fun u H3 => r x l u H3 Q) : tSl r te tl th σ H Q := q
theorem st_nopart {Q : Option Int → Hp → Prop} (q : Q none H) : tNoPart σ H Q := q
theorem st_part {Q : Option Int → Hp → Prop} (q : te σ H fun x H1 => isI x Q H1) : tPart te σ H Q := q
theorem st_isI {i : Int} {Q : Option Int → Hp → Prop} (q : Q (some i) H) : isI (.int i) Q H := ⟨i, rfl, q⟩
theorem st_slL (h : SqL K H a xs) (q : ∀ p H2, H p = none → Same H H2 → H2 p = some (.lst (cutV xs lo hi)) → Q (.ref p) H2) : rSlL K (.ref a) lo hi H Q := ⟨a, xs, rfl, h, new_any q⟩
def revP (K : PySem.W.Frag) (Q : VK) (x : V) (H : Hp) : Prop := ∃ a xs, x = .ref a ∧ SqL K H a xs ∧ ∀ p, H p = none → Q (.ref p) (upd H p (.lst xs.reverse))
theorem st_rev (q : te σ H fun x H1 => revP K Q x H1) : tRevL K te σ H Q := q
theorem go_rev (h : SqL K H a xs) (q : ∀ p H2, H p = none → Same H H2 → H2 p = some (.lst xs.reverse) → Q (.ref p) H2) : revP K Q (.ref a) H := ⟨a, xs, rfl, h, new_any q⟩
theorem st_ckw {r : List V → List V → Hp → VK → Prop} {t tk : TA} (q : t σ H fun vs H1 => tk σ H1 fun zs H2 => r vs zs H2 Q) : tCKw r t tk σ H Q := q
theorem st_sortedRev {ns : List Int} (h : SqL K H a (ns.map V.int)) (q : ∀ (ns' : List Int) (p : Addr) (H2 : Hp), ns'.Perm ns → ns'.Pairwise (· ≥ ·) → H p = none → Same H H2 → H2 p = some (.lst (ns'.map V.int)) → Q (.ref p) H2) : rSortedKw K true [.bl true] [.ref a] [.bl true] H Q :=
  ⟨a, ns, rfl, rfl, h, fun ns' p hp ho hn => q ns' p _ hp ho hn (same_new hn) upd_same⟩
end
theorem cut_to (xs : List V) (k : Nat) : cutV xs none (some (k : Int)) = xs.take k := by
  unfold cutV
  rw [HT.sIx_none, HT.sIx_nat, List.drop_zero, Nat.sub_zero]
  rw [Nat.min_comm]
  exact List.take_eq_take_iff.mpr (by omega)
theorem cut_mid (xs : List V) (a b : Nat) (h : b ≤ xs.length) : cutV xs (some (a : Int)) (some (b : Int)) = (xs.drop a).take (b - a) := by
  unfold cutV
  rw [HT.sIx_nat, HT.sIx_nat, Nat.min_eq_left h]
  by_cases h1 : a ≤ xs.length
  · rw [Nat.min_eq_left h1]
  · rw [Nat.min_eq_right (by omega), List.drop_eq_nil_of_le (Nat.le_refl _), List.drop_eq_nil_of_le (by omega)]
    simp
theorem cut_last (xs : List V) (h : xs ≠ []) : cutV xs none (some (-1)) = xs.dropLast := by
  have hl : 0 < xs.length := List.length_pos_iff.mpr h
  unfold cutV
  rw [HT.sIx_none, List.drop_zero, Nat.sub_zero, List.dropLast_eq_take]
  congr 1
  unfold HT.sIx
  simp
  omega
end Lw

namespace Lw
open PySem PySem.Spec PyProof.Rows L2
/-! ### sizes -/
theorem log2_mono {a b : Nat} (h : a ≤ b) : a.log2 ≤ b.log2 := by
  rcases Nat.eq_zero_or_pos a with h0 | h0
  · subst h0
    exact Nat.zero_le _
  · have hb : b ≠ 0 := by omega
    exact (Nat.le_log2 hb).mpr (Nat.le_trans (Nat.log2_self_le (by omega)) h)
theorem log2_mul (a b : Nat) : (a * b).log2 ≤ a.log2 + b.log2 + 1 := by
  rcases Nat.eq_zero_or_pos a with h0 | h0
  · subst h0
    rw [Nat.zero_mul]
    exact Nat.zero_le _
  rcases Nat.eq_zero_or_pos b with h1 | h1
  · subst h1
    rw [Nat.mul_zero]
    exact Nat.zero_le _
  have x := @Nat.lt_log2_self a
  have y := @Nat.lt_log2_self b
  have z : a * b < 2 ^ (a.log2 + 1) * 2 ^ (b.log2 + 1) := Nat.mul_lt_mul'' x y
  rw [← Nat.pow_add] at z
  have ne : a * b ≠ 0 := Nat.mul_ne_zero (by omega) (by omega)
  have := (Nat.log2_lt ne).mpr z
  omega
/-- small enough for the program's own arithmetic -/
def Bd (r : Rw) : Prop := r.num.natAbs.log2 < 4400 ∧ r.den.log2 < 4400
theorem cm_nd {x y : Rw} (hx : Bd x) (hy : Bd y) : CMulW x.num (y.den : Int) := by
  have := hx.1
  have := hy.2
  unfold CMulW
  rw [Int.natAbs_natCast]
  omega
theorem cm_nn {x y : Rw} (hx : Bd x) (hy : Bd y) : CMulW x.num y.num := by
  have := hx.1
  have := hy.1
  unfold CMulW
  omega
theorem cm_dd {x y : Rw} (hx : Bd x) (hy : Bd y) : CMulW (x.den : Int) (y.den : Int) := by
  have := hx.2
  have := hy.2
  unfold CMulW
  rw [Int.natAbs_natCast, Int.natAbs_natCast]
  omega
theorem cm_dn {x y : Rw} (hx : Bd x) (hy : Bd y) : CMulW (x.den : Int) y.num := by
  have := hx.2
  have := hy.1
  unfold CMulW
  rw [Int.natAbs_natCast]
  omega
theorem dd_small {x y : Rw} (hx : Bd x) (hy : Bd y) : (x.den * y.den).log2 < 9000 := by
  have := log2_mul x.den y.den
  have := hx.2
  have := hy.2
  omega
theorem dn_small {x y : Rw} (hx : Bd x) (hy : Bd y) : (x.den * y.num.toNat).log2 < 9000 := by
  have := log2_mul x.den y.num.toNat
  have h1 := hx.2
  have h2 := hy.1
  have h3 : y.num.toNat.log2 ≤ y.num.natAbs.log2 := log2_mono (by omega)
  omega
local macro_rules | `(tactic| wtm_at "lwsame") => `(tactic| first
  | assumption | exact Same.refl _ | (refine Same.trans (by assumption) ?_; wtm_at "lwsame"))
local macro_rules | `(tactic| wtm_at "lwup") => `(tactic| first
  | assumption
  | ((with_reducible show SqT _ _ _ _); first | (refine sqT_up ?_ (by assumption); wtm_at "lwsame") | (refine KT.sq ?_ _; assumption) | (refine SqT.of ?_; wtm_at "lwup"))
  | ((with_reducible show SqL _ _ _ _); first | (refine sqL_up ?_ (by assumption); wtm_at "lwsame") | (refine SqL.of ?_; wtm_at "lwup"))
  | ((with_reducible show _ = some _); refine (show Same _ _ by wtm_at "lwsame") _ _ (by assumption))
  | ((with_reducible show Fq _ _ _ _); refine Fq.up ?_ (by assumption); wtm_at "lwsame")
  | ((with_reducible show Fs _ _ _ _); refine Fs.up ?_ (by assumption); wtm_at "lwsame")
  | ((with_reducible show Is _ _ _ _); refine Is.up ?_ (by assumption); wtm_at "lwsame")
  | ((with_reducible show Ns _ _ _ _); refine Ns.up ?_ (by assumption); wtm_at "lwsame")
  | ((with_reducible show Eq4 _ _ _ _); refine Eq4.up ?_ (by assumption); wtm_at "lwsame")
  | ((with_reducible show Evs _ _ _ _); refine Evs.up ?_ (by assumption); wtm_at "lwsame"))
local macro_rules | `(tactic| wtm_at "lwst2") => `(tactic| first
  | (with_reducible refine st_drop ?_)
  | (with_reducible refine st_par ?_)
  | (with_reducible refine st_par2 ?_)
  | (with_reducible refine st_un ?_)
  | (with_reducible refine st_rU ?_)
  | (with_reducible refine st_B ?_)
  | (with_reducible refine st_not ?_)
  | (with_reducible refine st_and ?_)
  | (with_reducible refine st_or ?_)
  | (with_reducible refine st_andV ?_)
  | (with_reducible refine st_orV ?_)
  | (with_reducible refine st_isB2 ?_)
  | (with_reducible refine st_ifE ?_)
  | (with_reducible refine st_yes ?_)
  | (with_reducible refine st_forL ?_)
  | (with_reducible refine st_forR ?_)
  | (with_reducible refine st_lcL ?_)
  | (with_reducible refine st_lcR ?_)
  | (with_reducible refine st_lcZ ?_)
  | (with_reducible refine st_bm ?_)
  | (with_reducible refine st_sfld ?_)
  | (with_reducible refine st_gsub ?_)
  | (with_reducible refine st_meth ?_)
  | (with_reducible refine st_sl ?_)
  | (with_reducible refine st_nopart ?_)
  | (with_reducible refine st_part ?_)
  | (with_reducible refine st_isI ?_)
  | (with_reducible refine st_rev ?_)
  | (with_reducible refine st_ckw ?_)
  | (with_reducible refine st_abs ?_)
  | ((with_reducible refine st_eq ?hh ?_); (case hh => exact rfl))
  | ((with_reducible refine st_ne ?hh ?_); (case hh => exact rfl))
  | ((with_reducible refine st_ixT (v := ?vv) (xs := ?xx) ?hh ?hi ?_); (case hh => wtm_at "lwup"); (case hi => exact rfl))
  | ((with_reducible refine st_gtup (xs := ?xx) ?hh ?hi ?_); (case hh => wtm_at "lwup"); (case hi => exact rfl)))
local macro_rules | `(tactic| wtm_at "lwst") => `(tactic| first
  | (with_reducible refine st_cons ?_)
  | ((with_reducible refine st_var (v := ?vv) ?hh ?_); (case hh => exact rfl))
  | (with_reducible refine st_nil ?_)
  | (with_reducible refine st_call ?_)
  | (with_reducible refine st_gname ?_)
  | (with_reducible refine st_c ?_)
  | (with_reducible refine st_seq ?_)
  | (with_reducible refine st_op ?_)
  | (with_reducible refine st_ret ?_)
  | (with_reducible refine st_lst ?_)
  | (with_reducible refine st_gcons ?_)
  | (with_reducible refine st_asg ?_)
  | (with_reducible refine st_isB ?_)
  | (with_reducible refine st_ifS ?_)
  | (with_reducible refine st_nx0 ?_)
  | (with_reducible refine st_test ?_)
  | (with_reducible refine st_fld ?_)
  | (with_reducible refine st_nx ?_)
  | (with_reducible refine st_rI0 ?_)
  | (with_reducible refine st_callB ?_)
  | (with_reducible refine st_gnil ?_)
  | (with_reducible refine st_tup ?_)
  | wtm_at "lwst2")

section
variable {P : Program} {w : World} {K : PySem.W.Frag} {mg : Str → Option Value} {base : Heap} {az an aw d1 d2 d3 C : Addr}

def sp_common_divisor (K : PySem.W.Frag) (C : Addr) : Sp := fun vs H Q _ => ∃ a b : Int, vs = [.int a, .int b] ∧ Q (.int ((Nat.gcd a.natAbs b.natAbs : Nat) : Int)) H
abbrev s_common_divisor : Stmt := top 2
theorem sc_common_divisor : FnScope ["one", "other", "greater", "less"] ["one", "other"] (defScope s_common_divisor) := ⟨rfl, rfl, rfl, by decide +kernel, rfl, by decide +kernel, by decide +kernel⟩
theorem ok_common_divisor (T : Tx K mg az an aw d1 d2 d3 C) (h : Has K mg "common_divisor" s_common_divisor ["one", "other"]) :
    Ok P w K mg base "common_divisor" 1 ["one", "other"] (sp_common_divisor K C) := by
  refine ok_of h sc_common_divisor (fun vs H Q E h => ?_) (fun f cdv A outer s H vs Q E hr h => ⟨_, (pss_cons (ps_par (i := 2) (j := 3) (by rfl) sc_common_divisor.nd rfl rfl (by decide) rfl rfl (pa_cons (pe_callB cb_abs (by rfl) T.b_abs (by decide +kernel) (pa_cons (pv 0) pa_nil)) (pa_cons (pe_callB cb_abs (by rfl) T.b_abs (by decide +kernel) (pa_cons (pv 1) pa_nil)) pa_nil)) (by rfl))
      (pss_cons (ps_while PassesOwn.never (pt_cmpR op_gt (pv 3) pe_int (nomark _)) (pss_one (ps_par (i := 2) (j := 3) (by rfl) sc_common_divisor.nd rfl rfl (by decide) rfl rfl (pa_cons (pv 3) (pa_cons (pe_op op_mod (pv 2) (pv 3)) pa_nil)) (by rfl))))
      (pss_one (ps_ret (pv 2))))), ?_⟩)
  · first | (obtain ⟨_, rfl, _⟩ := h; rfl) | (obtain ⟨_, _, rfl, _⟩ := h; rfl) | (obtain ⟨_, _, _, rfl, _⟩ := h; rfl) | (obtain ⟨_, _, _, _, rfl, _⟩ := h; rfl) | (obtain ⟨_, _, _, _, _, rfl, _⟩ := h; rfl) | (obtain ⟨_, _, _, _, _, _, rfl, _⟩ := h; rfl) | (obtain ⟨_, _, _, _, _, _, _, rfl, _⟩ := h; rfl) | (obtain ⟨_, _, _, _, _, _, _, _, rfl, _⟩ := h; rfl) | (obtain ⟨_, _, _, _, _, _, _, _, _, rfl, _⟩ := h; rfl) | (obtain ⟨_, _, _, _, _, _, _, _, _, _, rfl, _⟩ := h; rfl) | (obtain ⟨_, _, _, _, _, _, _, _, _, _, _, rfl, _⟩ := h; rfl) | (obtain ⟨_, _, _, _, _, _, _, _, _, _, _, _, rfl, _⟩ := h; rfl) | (obtain ⟨_, _, _, _, _, _, _, _, _, _, _, _, _, rfl, _⟩ := h; rfl)

  · obtain ⟨a, b, rfl, k⟩ := h
    repeat wtm_at "lwst"
    refine st_while (fun m σ H1 => ∃ g : Nat, H1 = H ∧ Nat.gcd g m = Nat.gcd a.natAbs b.natAbs ∧ σ = [some (.int a), some (.int b), some (.int (g : Int)), some (.int (m : Int))]) b.natAbs ⟨_, rfl, rfl, rfl⟩ ?_
    rintro m σ H1 ⟨g, rfl, e, rfl⟩
    repeat wtm_at "lwst"
    cases m with
    | zero =>
      refine whB_f rfl ?_
      repeat wtm_at "lwst"
      rw [Nat.gcd_zero_right] at e
      rw [e]
      exact k
    | succ m =>
      refine whB_t (by simp) ?_
      repeat wtm_at "lwst"
      refine st_rI (by omega) ?_
      repeat wtm_at "lwst"
      refine ⟨g % (m + 1), Nat.mod_lt _ (by omega), m + 1, rfl, ?_, rfl⟩
      rw [← e, Nat.gcd_comm g, Nat.gcd_rec (m + 1) g, Nat.gcd_comm]
def sp_quotient (K : PySem.W.Frag) (C : Addr) : Sp := fun vs H Q _ => ∃ (n : Int) (d : Nat), vs = [.int n, .int (d : Int)] ∧ 0 < d ∧ d.log2 < 9000 ∧ ∀ v H', Same H H' → Fq K H' v (mkRat n d) → Q v H'
abbrev s_quotient : Stmt := top 3
theorem sc_quotient : FnScope ["above", "below", "divisor"] ["above", "below"] (defScope s_quotient) := ⟨rfl, rfl, rfl, by decide +kernel, rfl, by decide +kernel, by decide +kernel⟩
theorem ok_quotient (T : Tx K mg az an aw d1 d2 d3 C) (h : Has K mg "quotient" s_quotient ["above", "below"]) (O_common_divisor : Ok P w K mg base "common_divisor" 1 ["one", "other"] (sp_common_divisor K C)) :
    Ok P w K mg base "quotient" 2 ["above", "below"] (sp_quotient K C) := by
  refine ok_of h sc_quotient (fun vs H Q E h => ?_) (fun f cdv A outer s H vs Q E hr h => ⟨_, (pss_cons (ps_set (i := 2) sc_quotient.nd rfl (Or.inl rfl) (pe_go O_common_divisor (hr.mono (by decide)) (by rfl) (pa_cons (pv 0) (pa_cons (pv 1) pa_nil))))
      (pss_one (ps_ret (pe_tup (pa_cons (pe_op op_fdivW (pv 0) (pv 2)) (pa_cons (pe_op op_fdivW (pv 1) (pv 2)) pa_nil)))))), ?_⟩)
  · first | (obtain ⟨_, rfl, _⟩ := h; rfl) | (obtain ⟨_, _, rfl, _⟩ := h; rfl) | (obtain ⟨_, _, _, rfl, _⟩ := h; rfl) | (obtain ⟨_, _, _, _, rfl, _⟩ := h; rfl) | (obtain ⟨_, _, _, _, _, rfl, _⟩ := h; rfl) | (obtain ⟨_, _, _, _, _, _, rfl, _⟩ := h; rfl) | (obtain ⟨_, _, _, _, _, _, _, rfl, _⟩ := h; rfl) | (obtain ⟨_, _, _, _, _, _, _, _, rfl, _⟩ := h; rfl) | (obtain ⟨_, _, _, _, _, _, _, _, _, rfl, _⟩ := h; rfl) | (obtain ⟨_, _, _, _, _, _, _, _, _, _, rfl, _⟩ := h; rfl) | (obtain ⟨_, _, _, _, _, _, _, _, _, _, _, rfl, _⟩ := h; rfl) | (obtain ⟨_, _, _, _, _, _, _, _, _, _, _, _, rfl, _⟩ := h; rfl) | (obtain ⟨_, _, _, _, _, _, _, _, _, _, _, _, _, rfl, _⟩ := h; rfl)

  · obtain ⟨n, d, rfl, h0, h9, k⟩ := h
    repeat wtm_at "lwst"
    refine ⟨_, _, rfl, ?_⟩
    repeat wtm_at "lwst"
    have hg : 0 < Nat.gcd n.natAbs d := Nat.gcd_pos_of_pos_right _ h0
    have hl : (Nat.gcd n.natAbs d).log2 < 9000 := Nat.lt_of_le_of_lt (log2_mono (Nat.le_of_dvd h0 (Nat.gcd_dvd_right _ _))) h9
    have cd : ∀ i : Int, CDivW i ((Nat.gcd n.natAbs (d : Int).natAbs : Nat) : Int) := fun i => by
      rw [Int.natAbs_natCast]
      exact ⟨by omega, by rw [Int.natAbs_natCast]; exact hl⟩
    refine st_rI (cd _) ?_
    repeat wtm_at "lwst"
    refine st_rI (cd _) ?_
    repeat wtm_at "lwst"
    refine new_t (K := K) (by simp) fun p H2 e hp => ?_
    refine k _ _ e ⟨p, rfl, ?_⟩
    have hd : d ≠ 0 := by omega
    rw [Rat.num_mkRat, Rat.den_mkRat, if_neg hd, if_neg hd, Nat.gcd_comm d n.natAbs]
    rw [Int.natAbs_natCast] at hp
    exact hp
def sp_whole (K : PySem.W.Frag) (C : Addr) : Sp := fun vs H Q _ => ∃ n : Int, vs = [.int n] ∧ ∀ v H', Same H H' → Fq K H' v (n : Rw) → Q v H'
abbrev s_whole : Stmt := top 4
theorem sc_whole : FnScope ["number"] ["number"] (defScope s_whole) := ⟨rfl, rfl, rfl, by decide +kernel, rfl, by decide +kernel, by decide +kernel⟩
theorem ok_whole (T : Tx K mg az an aw d1 d2 d3 C) (h : Has K mg "whole" s_whole ["number"]) :
    Ok P w K mg base "whole" 1 ["number"] (sp_whole K C) := by
  refine ok_of h sc_whole (fun vs H Q E h => ?_) (fun f cdv A outer s H vs Q E hr h => ⟨_, (pss_one (ps_ret (pe_tup (pa_cons (pv 0) (pa_cons pe_int pa_nil))))), ?_⟩)
  · first | (obtain ⟨_, rfl, _⟩ := h; rfl) | (obtain ⟨_, _, rfl, _⟩ := h; rfl) | (obtain ⟨_, _, _, rfl, _⟩ := h; rfl) | (obtain ⟨_, _, _, _, rfl, _⟩ := h; rfl) | (obtain ⟨_, _, _, _, _, rfl, _⟩ := h; rfl) | (obtain ⟨_, _, _, _, _, _, rfl, _⟩ := h; rfl) | (obtain ⟨_, _, _, _, _, _, _, rfl, _⟩ := h; rfl) | (obtain ⟨_, _, _, _, _, _, _, _, rfl, _⟩ := h; rfl) | (obtain ⟨_, _, _, _, _, _, _, _, _, rfl, _⟩ := h; rfl) | (obtain ⟨_, _, _, _, _, _, _, _, _, _, rfl, _⟩ := h; rfl) | (obtain ⟨_, _, _, _, _, _, _, _, _, _, _, rfl, _⟩ := h; rfl) | (obtain ⟨_, _, _, _, _, _, _, _, _, _, _, _, rfl, _⟩ := h; rfl) | (obtain ⟨_, _, _, _, _, _, _, _, _, _, _, _, _, rfl, _⟩ := h; rfl)

  · obtain ⟨n, rfl, k⟩ := h
    repeat wtm_at "lwst"
    exact new_t (K := K) (by simp) fun p H2 e hp => k _ _ e ⟨p, rfl, hp⟩
theorem mk_go {n : Int} {d : Nat} {H : Hp} {Q : VK} {E : XK} (h0 : 0 < d) (h9 : d.log2 < 9000) (k : ∀ v H', Same H H' → Fq K H' v (mkRat n d) → Q v H') : sp_quotient K C [.int n, .int (d : Int)] H Q E := ⟨n, d, rfl, h0, h9, k⟩
def sp_plus (K : PySem.W.Frag) (C : Addr) : Sp := fun vs H Q _ => ∃ (a b : V) (x y : Rw), vs = [a, b] ∧ Fq K H a x ∧ Fq K H b y ∧ Bd x ∧ Bd y ∧ ∀ v H', Same H H' → Fq K H' v (x + y) → Q v H'
abbrev s_plus : Stmt := top 5
theorem sc_plus : FnScope ["one", "other"] ["one", "other"] (defScope s_plus) := ⟨rfl, rfl, rfl, by decide +kernel, rfl, by decide +kernel, by decide +kernel⟩
theorem ok_plus (T : Tx K mg az an aw d1 d2 d3 C) (h : Has K mg "plus" s_plus ["one", "other"]) (O_quotient : Ok P w K mg base "quotient" 2 ["above", "below"] (sp_quotient K C)) :
    Ok P w K mg base "plus" 3 ["one", "other"] (sp_plus K C) := by
  refine ok_of h sc_plus (fun vs H Q E h => ?_) (fun f cdv A outer s H vs Q E hr h => ⟨_, (pss_one (ps_ret (pe_go O_quotient (hr.mono (by decide)) (by rfl) (pa_cons (pe_op op_add (pe_op op_mulW (pe_ix (ix_tupK (K := K) rfl) (pv 0) pe_int (fun _ _ => rfl)) (pe_ix (ix_tupK (K := K) rfl) (pv 1) pe_int (fun _ _ => rfl))) (pe_op op_mulW (pe_ix (ix_tupK (K := K) rfl) (pv 1) pe_int (fun _ _ => rfl)) (pe_ix (ix_tupK (K := K) rfl) (pv 0) pe_int (fun _ _ => rfl)))) (pa_cons (pe_op op_mulW (pe_ix (ix_tupK (K := K) rfl) (pv 0) pe_int (fun _ _ => rfl)) (pe_ix (ix_tupK (K := K) rfl) (pv 1) pe_int (fun _ _ => rfl))) pa_nil))))), ?_⟩)
  · first | (obtain ⟨_, rfl, _⟩ := h; rfl) | (obtain ⟨_, _, rfl, _⟩ := h; rfl) | (obtain ⟨_, _, _, rfl, _⟩ := h; rfl) | (obtain ⟨_, _, _, _, rfl, _⟩ := h; rfl) | (obtain ⟨_, _, _, _, _, rfl, _⟩ := h; rfl) | (obtain ⟨_, _, _, _, _, _, rfl, _⟩ := h; rfl) | (obtain ⟨_, _, _, _, _, _, _, rfl, _⟩ := h; rfl) | (obtain ⟨_, _, _, _, _, _, _, _, rfl, _⟩ := h; rfl) | (obtain ⟨_, _, _, _, _, _, _, _, _, rfl, _⟩ := h; rfl) | (obtain ⟨_, _, _, _, _, _, _, _, _, _, rfl, _⟩ := h; rfl) | (obtain ⟨_, _, _, _, _, _, _, _, _, _, _, rfl, _⟩ := h; rfl) | (obtain ⟨_, _, _, _, _, _, _, _, _, _, _, _, rfl, _⟩ := h; rfl) | (obtain ⟨_, _, _, _, _, _, _, _, _, _, _, _, _, rfl, _⟩ := h; rfl)

  · obtain ⟨a, b, x, y, rfl, ⟨p, rfl, hp⟩, ⟨q, rfl, hq⟩, bx, by', k⟩ := h
    repeat wtm_at "lwst"
    refine st_rI (cm_nd bx by') ?_
    repeat wtm_at "lwst"
    refine st_rI (cm_nd by' bx) ?_
    repeat wtm_at "lwst"
    refine st_rI (cm_dd bx by') ?_
    repeat wtm_at "lwst"
    refine mk_go (d := x.den * y.den) (den_mul_pos x y) (dd_small bx by') fun v H' e hv => k v H' e ?_
    rw [Rat.add_def']
    exact hv
def sp_minus (K : PySem.W.Frag) (C : Addr) : Sp := fun vs H Q _ => ∃ (a b : V) (x y : Rw), vs = [a, b] ∧ Fq K H a x ∧ Fq K H b y ∧ Bd x ∧ Bd y ∧ ∀ v H', Same H H' → Fq K H' v (x - y) → Q v H'
abbrev s_minus : Stmt := top 6
theorem sc_minus : FnScope ["one", "other"] ["one", "other"] (defScope s_minus) := ⟨rfl, rfl, rfl, by decide +kernel, rfl, by decide +kernel, by decide +kernel⟩
theorem ok_minus (T : Tx K mg az an aw d1 d2 d3 C) (h : Has K mg "minus" s_minus ["one", "other"]) (O_quotient : Ok P w K mg base "quotient" 2 ["above", "below"] (sp_quotient K C)) :
    Ok P w K mg base "minus" 3 ["one", "other"] (sp_minus K C) := by
  refine ok_of h sc_minus (fun vs H Q E h => ?_) (fun f cdv A outer s H vs Q E hr h => ⟨_, (pss_one (ps_ret (pe_go O_quotient (hr.mono (by decide)) (by rfl) (pa_cons (pe_op op_sub (pe_op op_mulW (pe_ix (ix_tupK (K := K) rfl) (pv 0) pe_int (fun _ _ => rfl)) (pe_ix (ix_tupK (K := K) rfl) (pv 1) pe_int (fun _ _ => rfl))) (pe_op op_mulW (pe_ix (ix_tupK (K := K) rfl) (pv 1) pe_int (fun _ _ => rfl)) (pe_ix (ix_tupK (K := K) rfl) (pv 0) pe_int (fun _ _ => rfl)))) (pa_cons (pe_op op_mulW (pe_ix (ix_tupK (K := K) rfl) (pv 0) pe_int (fun _ _ => rfl)) (pe_ix (ix_tupK (K := K) rfl) (pv 1) pe_int (fun _ _ => rfl))) pa_nil))))), ?_⟩)
  · first | (obtain ⟨_, rfl, _⟩ := h; rfl) | (obtain ⟨_, _, rfl, _⟩ := h; rfl) | (obtain ⟨_, _, _, rfl, _⟩ := h; rfl) | (obtain ⟨_, _, _, _, rfl, _⟩ := h; rfl) | (obtain ⟨_, _, _, _, _, rfl, _⟩ := h; rfl) | (obtain ⟨_, _, _, _, _, _, rfl, _⟩ := h; rfl) | (obtain ⟨_, _, _, _, _, _, _, rfl, _⟩ := h; rfl) | (obtain ⟨_, _, _, _, _, _, _, _, rfl, _⟩ := h; rfl) | (obtain ⟨_, _, _, _, _, _, _, _, _, rfl, _⟩ := h; rfl) | (obtain ⟨_, _, _, _, _, _, _, _, _, _, rfl, _⟩ := h; rfl) | (obtain ⟨_, _, _, _, _, _, _, _, _, _, _, rfl, _⟩ := h; rfl) | (obtain ⟨_, _, _, _, _, _, _, _, _, _, _, _, rfl, _⟩ := h; rfl) | (obtain ⟨_, _, _, _, _, _, _, _, _, _, _, _, _, rfl, _⟩ := h; rfl)

  · obtain ⟨a, b, x, y, rfl, ⟨p, rfl, hp⟩, ⟨q, rfl, hq⟩, bx, by', k⟩ := h
    repeat wtm_at "lwst"
    refine st_rI (cm_nd bx by') ?_
    repeat wtm_at "lwst"
    refine st_rI (cm_nd by' bx) ?_
    repeat wtm_at "lwst"
    refine st_rI (cm_dd bx by') ?_
    repeat wtm_at "lwst"
    refine mk_go (d := x.den * y.den) (den_mul_pos x y) (dd_small bx by') fun v H' e hv => k v H' e ?_
    rw [Rat.sub_def']
    exact hv
def sp_times (K : PySem.W.Frag) (C : Addr) : Sp := fun vs H Q _ => ∃ (a b : V) (x y : Rw), vs = [a, b] ∧ Fq K H a x ∧ Fq K H b y ∧ Bd x ∧ Bd y ∧ ∀ v H', Same H H' → Fq K H' v (x * y) → Q v H'
abbrev s_times : Stmt := top 7
theorem sc_times : FnScope ["one", "other"] ["one", "other"] (defScope s_times) := ⟨rfl, rfl, rfl, by decide +kernel, rfl, by decide +kernel, by decide +kernel⟩
theorem ok_times (T : Tx K mg az an aw d1 d2 d3 C) (h : Has K mg "times" s_times ["one", "other"]) (O_quotient : Ok P w K mg base "quotient" 2 ["above", "below"] (sp_quotient K C)) :
    Ok P w K mg base "times" 3 ["one", "other"] (sp_times K C) := by
  refine ok_of h sc_times (fun vs H Q E h => ?_) (fun f cdv A outer s H vs Q E hr h => ⟨_, (pss_one (ps_ret (pe_go O_quotient (hr.mono (by decide)) (by rfl) (pa_cons (pe_op op_mulW (pe_ix (ix_tupK (K := K) rfl) (pv 0) pe_int (fun _ _ => rfl)) (pe_ix (ix_tupK (K := K) rfl) (pv 1) pe_int (fun _ _ => rfl))) (pa_cons (pe_op op_mulW (pe_ix (ix_tupK (K := K) rfl) (pv 0) pe_int (fun _ _ => rfl)) (pe_ix (ix_tupK (K := K) rfl) (pv 1) pe_int (fun _ _ => rfl))) pa_nil))))), ?_⟩)
  · first | (obtain ⟨_, rfl, _⟩ := h; rfl) | (obtain ⟨_, _, rfl, _⟩ := h; rfl) | (obtain ⟨_, _, _, rfl, _⟩ := h; rfl) | (obtain ⟨_, _, _, _, rfl, _⟩ := h; rfl) | (obtain ⟨_, _, _, _, _, rfl, _⟩ := h; rfl) | (obtain ⟨_, _, _, _, _, _, rfl, _⟩ := h; rfl) | (obtain ⟨_, _, _, _, _, _, _, rfl, _⟩ := h; rfl) | (obtain ⟨_, _, _, _, _, _, _, _, rfl, _⟩ := h; rfl) | (obtain ⟨_, _, _, _, _, _, _, _, _, rfl, _⟩ := h; rfl) | (obtain ⟨_, _, _, _, _, _, _, _, _, _, rfl, _⟩ := h; rfl) | (obtain ⟨_, _, _, _, _, _, _, _, _, _, _, rfl, _⟩ := h; rfl) | (obtain ⟨_, _, _, _, _, _, _, _, _, _, _, _, rfl, _⟩ := h; rfl) | (obtain ⟨_, _, _, _, _, _, _, _, _, _, _, _, _, rfl, _⟩ := h; rfl)

  · obtain ⟨a, b, x, y, rfl, ⟨p, rfl, hp⟩, ⟨q, rfl, hq⟩, bx, by', k⟩ := h
    repeat wtm_at "lwst"
    refine st_rI (cm_nn bx by') ?_
    repeat wtm_at "lwst"
    refine st_rI (cm_dd bx by') ?_
    repeat wtm_at "lwst"
    refine mk_go (d := x.den * y.den) (den_mul_pos x y) (dd_small bx by') fun v H' e hv => k v H' e ?_
    rw [Rat.mul_def']
    exact hv
def sp_over (K : PySem.W.Frag) (C : Addr) : Sp := fun vs H Q _ => ∃ (a b : V) (x y : Rw), vs = [a, b] ∧ Fq K H a x ∧ Fq K H b y ∧ Bd x ∧ Bd y ∧ 0 < y ∧ ∀ v H', Same H H' → Fq K H' v (x / y) → Q v H'
abbrev s_over : Stmt := top 8
theorem sc_over : FnScope ["one", "other"] ["one", "other"] (defScope s_over) := ⟨rfl, rfl, rfl, by decide +kernel, rfl, by decide +kernel, by decide +kernel⟩
theorem ok_over (T : Tx K mg az an aw d1 d2 d3 C) (h : Has K mg "over" s_over ["one", "other"]) (O_quotient : Ok P w K mg base "quotient" 2 ["above", "below"] (sp_quotient K C)) :
    Ok P w K mg base "over" 3 ["one", "other"] (sp_over K C) := by
  refine ok_of h sc_over (fun vs H Q E h => ?_) (fun f cdv A outer s H vs Q E hr h => ⟨_, (pss_one (ps_ret (pe_go O_quotient (hr.mono (by decide)) (by rfl) (pa_cons (pe_op op_mulW (pe_ix (ix_tupK (K := K) rfl) (pv 0) pe_int (fun _ _ => rfl)) (pe_ix (ix_tupK (K := K) rfl) (pv 1) pe_int (fun _ _ => rfl))) (pa_cons (pe_op op_mulW (pe_ix (ix_tupK (K := K) rfl) (pv 0) pe_int (fun _ _ => rfl)) (pe_ix (ix_tupK (K := K) rfl) (pv 1) pe_int (fun _ _ => rfl))) pa_nil))))), ?_⟩)
  · first | (obtain ⟨_, rfl, _⟩ := h; rfl) | (obtain ⟨_, _, rfl, _⟩ := h; rfl) | (obtain ⟨_, _, _, rfl, _⟩ := h; rfl) | (obtain ⟨_, _, _, _, rfl, _⟩ := h; rfl) | (obtain ⟨_, _, _, _, _, rfl, _⟩ := h; rfl) | (obtain ⟨_, _, _, _, _, _, rfl, _⟩ := h; rfl) | (obtain ⟨_, _, _, _, _, _, _, rfl, _⟩ := h; rfl) | (obtain ⟨_, _, _, _, _, _, _, _, rfl, _⟩ := h; rfl) | (obtain ⟨_, _, _, _, _, _, _, _, _, rfl, _⟩ := h; rfl) | (obtain ⟨_, _, _, _, _, _, _, _, _, _, rfl, _⟩ := h; rfl) | (obtain ⟨_, _, _, _, _, _, _, _, _, _, _, rfl, _⟩ := h; rfl) | (obtain ⟨_, _, _, _, _, _, _, _, _, _, _, _, rfl, _⟩ := h; rfl) | (obtain ⟨_, _, _, _, _, _, _, _, _, _, _, _, _, rfl, _⟩ := h; rfl)

  · obtain ⟨a, b, x, y, rfl, ⟨p, rfl, hp⟩, ⟨q, rfl, hq⟩, bx, by', y0, k⟩ := h
    have hn := num_pos y0
    have e0 : y.num = ((y.num.toNat : Nat) : Int) := by omega
    repeat wtm_at "lwst"
    refine st_rI (cm_nd bx by') ?_
    repeat wtm_at "lwst"
    refine st_rI (cm_dn bx by') ?_
    repeat wtm_at "lwst"
    rw [show ((x.den : Int) * y.num) = ((x.den * y.num.toNat : Nat) : Int) by rw [Int.natCast_mul, ← e0]]
    refine mk_go (d := x.den * y.num.toNat) (Nat.mul_pos x.den_pos (by omega)) (dn_small bx by') fun v H' e hv => k v H' e ?_
    rw [div_mk x y y0]
    exact hv
def sp_square (K : PySem.W.Frag) (C : Addr) : Sp := fun vs H Q _ => ∃ (a : V) (x : Rw), vs = [a] ∧ Fq K H a x ∧ Bd x ∧ ∀ v H', Same H H' → Fq K H' v (x * x) → Q v H'
abbrev s_square : Stmt := top 9
theorem sc_square : FnScope ["one"] ["one"] (defScope s_square) := ⟨rfl, rfl, rfl, by decide +kernel, rfl, by decide +kernel, by decide +kernel⟩
theorem ok_square (T : Tx K mg az an aw d1 d2 d3 C) (h : Has K mg "square" s_square ["one"]) (O_times : Ok P w K mg base "times" 3 ["one", "other"] (sp_times K C)) :
    Ok P w K mg base "square" 4 ["one"] (sp_square K C) := by
  refine ok_of h sc_square (fun vs H Q E h => ?_) (fun f cdv A outer s H vs Q E hr h => ⟨_, (pss_one (ps_ret (pe_go O_times (hr.mono (by decide)) (by rfl) (pa_cons (pv 0) (pa_cons (pv 0) pa_nil))))), ?_⟩)
  · first | (obtain ⟨_, rfl, _⟩ := h; rfl) | (obtain ⟨_, _, rfl, _⟩ := h; rfl) | (obtain ⟨_, _, _, rfl, _⟩ := h; rfl) | (obtain ⟨_, _, _, _, rfl, _⟩ := h; rfl) | (obtain ⟨_, _, _, _, _, rfl, _⟩ := h; rfl) | (obtain ⟨_, _, _, _, _, _, rfl, _⟩ := h; rfl) | (obtain ⟨_, _, _, _, _, _, _, rfl, _⟩ := h; rfl) | (obtain ⟨_, _, _, _, _, _, _, _, rfl, _⟩ := h; rfl) | (obtain ⟨_, _, _, _, _, _, _, _, _, rfl, _⟩ := h; rfl) | (obtain ⟨_, _, _, _, _, _, _, _, _, _, rfl, _⟩ := h; rfl) | (obtain ⟨_, _, _, _, _, _, _, _, _, _, _, rfl, _⟩ := h; rfl) | (obtain ⟨_, _, _, _, _, _, _, _, _, _, _, _, rfl, _⟩ := h; rfl) | (obtain ⟨_, _, _, _, _, _, _, _, _, _, _, _, _, rfl, _⟩ := h; rfl)

  · obtain ⟨a, x, rfl, hx, bx, k⟩ := h
    repeat wtm_at "lwst"
    exact ⟨a, a, x, x, rfl, hx, hx, bx, bx, k⟩
def sp_is_less (K : PySem.W.Frag) (C : Addr) : Sp := fun vs H Q _ => ∃ (a b : V) (x y : Rw), vs = [a, b] ∧ Fq K H a x ∧ Fq K H b y ∧ Bd x ∧ Bd y ∧ Q (.bl (decide (x < y))) H
abbrev s_is_less : Stmt := top 10
theorem sc_is_less : FnScope ["one", "other"] ["one", "other"] (defScope s_is_less) := ⟨rfl, rfl, rfl, by decide +kernel, rfl, by decide +kernel, by decide +kernel⟩
theorem ok_is_less (T : Tx K mg az an aw d1 d2 d3 C) (h : Has K mg "is_less" s_is_less ["one", "other"]) :
    Ok P w K mg base "is_less" 1 ["one", "other"] (sp_is_less K C) := by
  refine ok_of h sc_is_less (fun vs H Q E h => ?_) (fun f cdv A outer s H vs Q E hr h => ⟨_, (pss_one (ps_ret (pe_cmpR op_lt (pe_op op_mulW (pe_ix (ix_tupK (K := K) rfl) (pv 0) pe_int (fun _ _ => rfl)) (pe_ix (ix_tupK (K := K) rfl) (pv 1) pe_int (fun _ _ => rfl))) (pe_op op_mulW (pe_ix (ix_tupK (K := K) rfl) (pv 1) pe_int (fun _ _ => rfl)) (pe_ix (ix_tupK (K := K) rfl) (pv 0) pe_int (fun _ _ => rfl))) (nomark _)))), ?_⟩)
  · first | (obtain ⟨_, rfl, _⟩ := h; rfl) | (obtain ⟨_, _, rfl, _⟩ := h; rfl) | (obtain ⟨_, _, _, rfl, _⟩ := h; rfl) | (obtain ⟨_, _, _, _, rfl, _⟩ := h; rfl) | (obtain ⟨_, _, _, _, _, rfl, _⟩ := h; rfl) | (obtain ⟨_, _, _, _, _, _, rfl, _⟩ := h; rfl) | (obtain ⟨_, _, _, _, _, _, _, rfl, _⟩ := h; rfl) | (obtain ⟨_, _, _, _, _, _, _, _, rfl, _⟩ := h; rfl) | (obtain ⟨_, _, _, _, _, _, _, _, _, rfl, _⟩ := h; rfl) | (obtain ⟨_, _, _, _, _, _, _, _, _, _, rfl, _⟩ := h; rfl) | (obtain ⟨_, _, _, _, _, _, _, _, _, _, _, rfl, _⟩ := h; rfl) | (obtain ⟨_, _, _, _, _, _, _, _, _, _, _, _, rfl, _⟩ := h; rfl) | (obtain ⟨_, _, _, _, _, _, _, _, _, _, _, _, _, rfl, _⟩ := h; rfl)

  · obtain ⟨a, b, x, y, rfl, ⟨p, rfl, hp⟩, ⟨q, rfl, hq⟩, bx, by', k⟩ := h
    repeat wtm_at "lwst"
    refine st_rI (cm_nd bx by') ?_
    repeat wtm_at "lwst"
    refine st_rI (cm_nd by' bx) ?_
    repeat wtm_at "lwst"
    rw [show decide (x.num * (y.den : Int) < y.num * (x.den : Int)) = decide (x < y) from decide_eq_decide.mpr (Rat.lt_iff x y).symm]
    exact k
def sp_smaller (K : PySem.W.Frag) (C : Addr) : Sp := fun vs H Q _ => ∃ (a b : V) (x y : Rw), vs = [a, b] ∧ Fq K H a x ∧ Fq K H b y ∧ Bd x ∧ Bd y ∧ ∀ v, Fq K H v (clip x y) → Q v H
abbrev s_smaller : Stmt := top 11
theorem sc_smaller : FnScope ["one", "other"] ["one", "other"] (defScope s_smaller) := ⟨rfl, rfl, rfl, by decide +kernel, rfl, by decide +kernel, by decide +kernel⟩
theorem ok_smaller (T : Tx K mg az an aw d1 d2 d3 C) (h : Has K mg "smaller" s_smaller ["one", "other"]) (O_is_less : Ok P w K mg base "is_less" 1 ["one", "other"] (sp_is_less K C)) :
    Ok P w K mg base "smaller" 2 ["one", "other"] (sp_smaller K C) := by
  refine ok_of h sc_smaller (fun vs H Q E h => ?_) (fun f cdv A outer s H vs Q E hr h => ⟨_, (pss_one (ps_ret (pe_ifExp (pt_val (pe_go O_is_less (hr.mono (by decide)) (by rfl) (pa_cons (pv 0) (pa_cons (pv 1) pa_nil)))) (pv 0) (pv 1)))), ?_⟩)
  · first | (obtain ⟨_, rfl, _⟩ := h; rfl) | (obtain ⟨_, _, rfl, _⟩ := h; rfl) | (obtain ⟨_, _, _, rfl, _⟩ := h; rfl) | (obtain ⟨_, _, _, _, rfl, _⟩ := h; rfl) | (obtain ⟨_, _, _, _, _, rfl, _⟩ := h; rfl) | (obtain ⟨_, _, _, _, _, _, rfl, _⟩ := h; rfl) | (obtain ⟨_, _, _, _, _, _, _, rfl, _⟩ := h; rfl) | (obtain ⟨_, _, _, _, _, _, _, _, rfl, _⟩ := h; rfl) | (obtain ⟨_, _, _, _, _, _, _, _, _, rfl, _⟩ := h; rfl) | (obtain ⟨_, _, _, _, _, _, _, _, _, _, rfl, _⟩ := h; rfl) | (obtain ⟨_, _, _, _, _, _, _, _, _, _, _, rfl, _⟩ := h; rfl) | (obtain ⟨_, _, _, _, _, _, _, _, _, _, _, _, rfl, _⟩ := h; rfl) | (obtain ⟨_, _, _, _, _, _, _, _, _, _, _, _, _, rfl, _⟩ := h; rfl)

  · obtain ⟨a, b, x, y, rfl, hx, hy, bx, by', k⟩ := h
    repeat wtm_at "lwst"
    refine ⟨_, _, x, y, rfl, hx, hy, bx, by', ?_⟩
    repeat wtm_at "lwst"
    refine cond_2 (fun c => ?_) (fun c => ?_)
    · repeat wtm_at "lwst"
      refine k _ ?_
      unfold clip
      rw [if_pos (of_decide_eq_true c)]
      exact hx
    · repeat wtm_at "lwst"
      refine k _ ?_
      unfold clip
      rw [if_neg (of_decide_eq_false c)]
      exact hy
end
end Lw

namespace Lw
open PySem PySem.Spec PyProof.Rows L2
local macro_rules | `(tactic| wtm_at "lwsame") => `(tactic| first
  | assumption | exact Same.refl _ | (refine Same.trans (by assumption) ?_; wtm_at "lwsame"))
local macro_rules | `(tactic| wtm_at "lwup") => `(tactic| first
  | assumption
  | ((with_reducible show SqT _ _ _ _); first | (refine sqT_up ?_ (by assumption); wtm_at "lwsame") | (refine KT.sq ?_ _; assumption) | (refine SqT.of ?_; wtm_at "lwup"))
  | ((with_reducible show SqL _ _ _ _); first | (refine sqL_up ?_ (by assumption); wtm_at "lwsame") | (refine SqL.of ?_; wtm_at "lwup"))
  | ((with_reducible show _ = some _); refine (show Same _ _ by wtm_at "lwsame") _ _ (by assumption))
  | ((with_reducible show Fq _ _ _ _); refine Fq.up ?_ (by assumption); wtm_at "lwsame")
  | ((with_reducible show Fs _ _ _ _); refine Fs.up ?_ (by assumption); wtm_at "lwsame")
  | ((with_reducible show Is _ _ _ _); refine Is.up ?_ (by assumption); wtm_at "lwsame")
  | ((with_reducible show Ns _ _ _ _); refine Ns.up ?_ (by assumption); wtm_at "lwsame")
  | ((with_reducible show Eq4 _ _ _ _); refine Eq4.up ?_ (by assumption); wtm_at "lwsame")
  | ((with_reducible show Evs _ _ _ _); refine Evs.up ?_ (by assumption); wtm_at "lwsame"))
local macro_rules | `(tactic| wtm_at "lwst2") => `(tactic| first
  | (with_reducible refine st_drop ?_)
  | (with_reducible refine st_par ?_)
  | (with_reducible refine st_par2 ?_)
  | (with_reducible refine st_un ?_)
  | (with_reducible refine st_rU ?_)
  | (with_reducible refine st_B ?_)
  | (with_reducible refine st_not ?_)
  | (with_reducible refine st_and ?_)
  | (with_reducible refine st_or ?_)
  | (with_reducible refine st_andV ?_)
  | (with_reducible refine st_orV ?_)
  | (with_reducible refine st_isB2 ?_)
  | (with_reducible refine st_ifE ?_)
  | (with_reducible refine st_yes ?_)
  | (with_reducible refine st_forL ?_)
  | (with_reducible refine st_forR ?_)
  | (with_reducible refine st_lcL ?_)
  | (with_reducible refine st_lcR ?_)
  | (with_reducible refine st_lcZ ?_)
  | (with_reducible refine st_bm ?_)
  | (with_reducible refine st_sfld ?_)
  | (with_reducible refine st_gsub ?_)
  | (with_reducible refine st_meth ?_)
  | (with_reducible refine st_sl ?_)
  | (with_reducible refine st_nopart ?_)
  | (with_reducible refine st_part ?_)
  | (with_reducible refine st_isI ?_)
  | (with_reducible refine st_rev ?_)
  | (with_reducible refine st_ckw ?_)
  | (with_reducible refine st_abs ?_)
  | ((with_reducible refine st_eq ?hh ?_); (case hh => exact rfl))
  | ((with_reducible refine st_ne ?hh ?_); (case hh => exact rfl))
  | ((with_reducible refine st_ixT (v := ?vv) (xs := ?xx) ?hh ?hi ?_); (case hh => wtm_at "lwup"); (case hi => exact rfl))
  | ((with_reducible refine st_gtup (xs := ?xx) ?hh ?hi ?_); (case hh => wtm_at "lwup"); (case hi => exact rfl)))
local macro_rules | `(tactic| wtm_at "lwst") => `(tactic| first
  | (with_reducible refine st_cons ?_)
  | ((with_reducible refine st_var (v := ?vv) ?hh ?_); (case hh => exact rfl))
  | (with_reducible refine st_nil ?_)
  | (with_reducible refine st_call ?_)
  | (with_reducible refine st_gname ?_)
  | (with_reducible refine st_c ?_)
  | (with_reducible refine st_seq ?_)
  | (with_reducible refine st_op ?_)
  | (with_reducible refine st_ret ?_)
  | (with_reducible refine st_lst ?_)
  | (with_reducible refine st_gcons ?_)
  | (with_reducible refine st_asg ?_)
  | (with_reducible refine st_isB ?_)
  | (with_reducible refine st_ifS ?_)
  | (with_reducible refine st_nx0 ?_)
  | (with_reducible refine st_test ?_)
  | (with_reducible refine st_fld ?_)
  | (with_reducible refine st_nx ?_)
  | (with_reducible refine st_rI0 ?_)
  | (with_reducible refine st_callB ?_)
  | (with_reducible refine st_gnil ?_)
  | (with_reducible refine st_tup ?_)
  | wtm_at "lwst2")

theorem bd_nat {n : Nat} (h : n ≤ 100000) : Bd (n : Rw) := by
  refine ⟨?_, ?_⟩
  · show ((n : Int).natAbs).log2 < 4400
    rw [Int.natAbs_natCast]
    exact Nat.lt_of_le_of_lt (log2_mono h) (by decide)
  · show (1 : Nat).log2 < 4400
    decide
theorem bd_zero : Bd (0 : Rw) := bd_nat (n := 0) (by decide)
/-- every item and every sum of the first ones is small enough -/
def Ps (rs : List Rw) : Prop := (∀ r ∈ rs, Bd r) ∧ ∀ i, Bd ((rs.take i).sum)
theorem Ps.all {rs : List Rw} (h : Ps rs) : Bd rs.sum := by
  have := h.2 rs.length
  rw [List.take_length] at this
  exact this
theorem mem_ix {α : Type} {l : List α} {i : Nat} {x : α} (h : l[i]? = some x) : x ∈ l := List.mem_of_getElem? h
section
variable {P : Program} {w : World} {K : PySem.W.Frag} {mg : Str → Option Value} {base : Heap} {az an aw d1 d2 d3 C : Addr}

theorem fq_zero (T : Tx K mg az an aw d1 d2 d3 C) (H : Hp) : Fq K H (.ref az) 0 := ⟨az, rfl, T.z.sq H⟩
def sp_total (K : PySem.W.Frag) (C : Addr) : Sp := fun vs H Q _ => ∃ (a : V) (rs : List Rw), vs = [a] ∧ Fs K H a rs ∧ Ps rs ∧ ∀ v H', Same H H' → Fq K H' v rs.sum → Q v H'
abbrev s_total : Stmt := top 12
theorem sc_total : FnScope ["quotients", "found", "each"] ["quotients"] (defScope s_total) := ⟨rfl, rfl, rfl, by decide +kernel, rfl, by decide +kernel, by decide +kernel⟩
theorem ok_total (T : Tx K mg az an aw d1 d2 d3 C) (h : Has K mg "total" s_total ["quotients"]) (O_plus : Ok P w K mg base "plus" 3 ["one", "other"] (sp_plus K C)) :
    Ok P w K mg base "total" 4 ["quotients"] (sp_total K C) := by
  refine ok_of h sc_total (fun vs H Q E h => ?_) (fun f cdv A outer s H vs Q E hr h => ⟨_, (pss_cons (ps_set (i := 1) sc_total.nd rfl (Or.inl rfl) (pe_globR (by rfl) T.m_ZERO))
      (pss_cons (ps_for PassesOwn.never rfl (pi_list (pv 0)) (pg_name (i := 2) sc_total.nd rfl (Or.inl rfl)) (pss_one (ps_set (i := 1) sc_total.nd rfl (Or.inl rfl) (pe_go O_plus (hr.mono (by decide)) (by rfl) (pa_cons (pv 1) (pa_cons (pv 2) pa_nil))))))
      (pss_one (ps_ret (pv 1))))), ?_⟩)
  · first | (obtain ⟨_, rfl, _⟩ := h; rfl) | (obtain ⟨_, _, rfl, _⟩ := h; rfl) | (obtain ⟨_, _, _, rfl, _⟩ := h; rfl) | (obtain ⟨_, _, _, _, rfl, _⟩ := h; rfl) | (obtain ⟨_, _, _, _, _, rfl, _⟩ := h; rfl) | (obtain ⟨_, _, _, _, _, _, rfl, _⟩ := h; rfl) | (obtain ⟨_, _, _, _, _, _, _, rfl, _⟩ := h; rfl) | (obtain ⟨_, _, _, _, _, _, _, _, rfl, _⟩ := h; rfl) | (obtain ⟨_, _, _, _, _, _, _, _, _, rfl, _⟩ := h; rfl) | (obtain ⟨_, _, _, _, _, _, _, _, _, _, rfl, _⟩ := h; rfl) | (obtain ⟨_, _, _, _, _, _, _, _, _, _, _, rfl, _⟩ := h; rfl) | (obtain ⟨_, _, _, _, _, _, _, _, _, _, _, _, rfl, _⟩ := h; rfl) | (obtain ⟨_, _, _, _, _, _, _, _, _, _, _, _, _, rfl, _⟩ := h; rfl)

  · obtain ⟨a, rs, rfl, ⟨p, xs, rfl, hp, hxs⟩, ps, k⟩ := h
    repeat wtm_at "lwst"
    refine go_forL (Same.refl H) hp (fun i σ H1 => ∃ v o, σ = [some (.ref p), some v, o] ∧ Fq K H1 v ((rs.take i).sum)) ⟨_, none, rfl, fq_zero T H⟩ ?_ ?_
    · rintro i x σ H1 hi e ⟨v, o, rfl, hv⟩
      obtain ⟨r, hr, hq⟩ := hxs.get hi
      repeat wtm_at "lwst"
      refine ⟨v, x, _, r, rfl, hv, hq.up e, ps.2 i, ps.1 r (mem_ix hr), fun y H2 e2 hy => ?_⟩
      repeat wtm_at "lwst"
      refine ⟨e.trans e2, y, some x, rfl, ?_⟩
      rw [sum_take1 hr]
      exact hy
    · rintro σ H1 e ⟨v, o, rfl, hv⟩
      repeat wtm_at "lwst"
      refine k v H1 e ?_
      rw [hxs.len, List.take_length] at hv
      exact hv
def sp_mean (K : PySem.W.Frag) (C : Addr) : Sp := fun vs H Q _ => ∃ (a : V) (rs : List Rw), vs = [a] ∧ Fs K H a rs ∧ Ps rs ∧ 0 < rs.length ∧ rs.length ≤ 1000 ∧ ∀ v H', Same H H' → Fq K H' v (meanR rs) → Q v H'
abbrev s_mean : Stmt := top 13
theorem sc_mean : FnScope ["quotients"] ["quotients"] (defScope s_mean) := ⟨rfl, rfl, rfl, by decide +kernel, rfl, by decide +kernel, by decide +kernel⟩
theorem ok_mean (T : Tx K mg az an aw d1 d2 d3 C) (h : Has K mg "mean" s_mean ["quotients"]) (O_over : Ok P w K mg base "over" 3 ["one", "other"] (sp_over K C)) (O_total : Ok P w K mg base "total" 4 ["quotients"] (sp_total K C)) (O_whole : Ok P w K mg base "whole" 1 ["number"] (sp_whole K C)) :
    Ok P w K mg base "mean" 5 ["quotients"] (sp_mean K C) := by
  refine ok_of h sc_mean (fun vs H Q E h => ?_) (fun f cdv A outer s H vs Q E hr h => ⟨_, (pss_one (ps_ret (pe_go O_over (hr.mono (by decide)) (by rfl) (pa_cons (pe_go O_total (hr.mono (by decide)) (by rfl) (pa_cons (pv 0) pa_nil)) (pa_cons (pe_go O_whole (hr.mono (by decide)) (by rfl) (pa_cons (pe_callB (cb_lenK (K := K) rfl) (by rfl) T.b_len PySem.boot_len (pa_cons (pv 0) pa_nil)) pa_nil)) pa_nil))))), ?_⟩)
  · first | (obtain ⟨_, rfl, _⟩ := h; rfl) | (obtain ⟨_, _, rfl, _⟩ := h; rfl) | (obtain ⟨_, _, _, rfl, _⟩ := h; rfl) | (obtain ⟨_, _, _, _, rfl, _⟩ := h; rfl) | (obtain ⟨_, _, _, _, _, rfl, _⟩ := h; rfl) | (obtain ⟨_, _, _, _, _, _, rfl, _⟩ := h; rfl) | (obtain ⟨_, _, _, _, _, _, _, rfl, _⟩ := h; rfl) | (obtain ⟨_, _, _, _, _, _, _, _, rfl, _⟩ := h; rfl) | (obtain ⟨_, _, _, _, _, _, _, _, _, rfl, _⟩ := h; rfl) | (obtain ⟨_, _, _, _, _, _, _, _, _, _, rfl, _⟩ := h; rfl) | (obtain ⟨_, _, _, _, _, _, _, _, _, _, _, rfl, _⟩ := h; rfl) | (obtain ⟨_, _, _, _, _, _, _, _, _, _, _, _, rfl, _⟩ := h; rfl) | (obtain ⟨_, _, _, _, _, _, _, _, _, _, _, _, _, rfl, _⟩ := h; rfl)

  · obtain ⟨a, rs, rfl, hf, ps, l0, l1, k⟩ := h
    repeat wtm_at "lwst"
    refine ⟨a, rs, rfl, hf, ps, fun v H1 e1 hv => ?_⟩
    repeat wtm_at "lwst"
    obtain ⟨p, xs, rfl, hp, hxs⟩ := hf
    refine st_len (sqL_up e1 hp) ?_
    repeat wtm_at "lwst"
    refine ⟨_, rfl, fun u H2 e2 hu => ?_⟩
    repeat wtm_at "lwst"
    rw [hxs.len] at hu
    refine ⟨v, u, rs.sum, (rs.length : Rw), rfl, hv.up e2, hu, ps.all, bd_nat (by omega), Rat.natCast_pos.mpr l0, fun y H3 e3 hy => k y H3 ((e1.trans e2).trans e3) hy⟩
theorem max_take {l : List Rw} {i : Nat} {x f : Rw} (h : l[i]? = some x) : (l.take (i + 1)).foldl (fun f y => if f < y then y else f) f = (if (l.take i).foldl (fun f y => if f < y then y else f) f < x then x else (l.take i).foldl (fun f y => if f < y then y else f) f) := by
  rw [List.take_succ, h, List.foldl_append]
  rfl
theorem max_mem (l : List Rw) (f : Rw) : l.foldl (fun f y => if f < y then y else f) f = f ∨ l.foldl (fun f y => if f < y then y else f) f ∈ l := by
  induction l generalizing f with
  | nil => exact .inl rfl
  | cons x r ih =>
    rw [List.foldl_cons]
    rcases ih (if f < x then x else f) with h | h
    · rw [h]
      split
      · exact .inr List.mem_cons_self
      · exact .inl rfl
    · exact .inr (List.mem_cons_of_mem _ h)
def sp_greatest (K : PySem.W.Frag) (C : Addr) : Sp := fun vs H Q _ => ∃ (a : V) (rs : List Rw), vs = [a] ∧ Fs K H a rs ∧ (∀ r ∈ rs, Bd r) ∧ 0 < rs.length ∧ ∀ v, Fq K H v (maxR rs) → Q v H
abbrev s_greatest : Stmt := top 14
theorem sc_greatest : FnScope ["quotients", "found", "each"] ["quotients"] (defScope s_greatest) := ⟨rfl, rfl, rfl, by decide +kernel, rfl, by decide +kernel, by decide +kernel⟩
theorem ok_greatest (T : Tx K mg az an aw d1 d2 d3 C) (h : Has K mg "greatest" s_greatest ["quotients"]) (O_is_less : Ok P w K mg base "is_less" 1 ["one", "other"] (sp_is_less K C)) :
    Ok P w K mg base "greatest" 2 ["quotients"] (sp_greatest K C) := by
  refine ok_of h sc_greatest (fun vs H Q E h => ?_) (fun f cdv A outer s H vs Q E hr h => ⟨_, (pss_cons (ps_set (i := 1) sc_greatest.nd rfl (Or.inl rfl) (pe_ix (ix_listK (K := K) rfl) (pv 0) pe_int (fun _ _ => rfl)))
      (pss_cons (ps_for PassesOwn.never rfl (pi_list (pv 0)) (pg_name (i := 2) sc_greatest.nd rfl (Or.inl rfl)) (pss_one (ps_if (pt_val (pe_go O_is_less (hr.mono (by decide)) (by rfl) (pa_cons (pv 1) (pa_cons (pv 2) pa_nil)))) (pss_one (ps_set (i := 1) sc_greatest.nd rfl (Or.inl rfl) (pv 2))) pss_nil)))
      (pss_one (ps_ret (pv 1))))), ?_⟩)
  · first | (obtain ⟨_, rfl, _⟩ := h; rfl) | (obtain ⟨_, _, rfl, _⟩ := h; rfl) | (obtain ⟨_, _, _, rfl, _⟩ := h; rfl) | (obtain ⟨_, _, _, _, rfl, _⟩ := h; rfl) | (obtain ⟨_, _, _, _, _, rfl, _⟩ := h; rfl) | (obtain ⟨_, _, _, _, _, _, rfl, _⟩ := h; rfl) | (obtain ⟨_, _, _, _, _, _, _, rfl, _⟩ := h; rfl) | (obtain ⟨_, _, _, _, _, _, _, _, rfl, _⟩ := h; rfl) | (obtain ⟨_, _, _, _, _, _, _, _, _, rfl, _⟩ := h; rfl) | (obtain ⟨_, _, _, _, _, _, _, _, _, _, rfl, _⟩ := h; rfl) | (obtain ⟨_, _, _, _, _, _, _, _, _, _, _, rfl, _⟩ := h; rfl) | (obtain ⟨_, _, _, _, _, _, _, _, _, _, _, _, rfl, _⟩ := h; rfl) | (obtain ⟨_, _, _, _, _, _, _, _, _, _, _, _, _, rfl, _⟩ := h; rfl)

  · obtain ⟨a, rs, rfl, ⟨p, xs, rfl, hp, hxs⟩, ps, l0, k⟩ := h
    obtain ⟨r0, rt, rfl⟩ : ∃ r0 rt, rs = r0 :: rt := by
      cases rs with
      | nil => simp at l0
      | cons r0 rt => exact ⟨r0, rt, rfl⟩
    obtain ⟨x0, hx0, hq0⟩ := hxs.get' (i := 0) (b := r0) rfl
    repeat wtm_at "lwst"
    refine st_ixL hp (atI_nat (j := 0) hx0) ?_
    repeat wtm_at "lwst"
    refine go_forL (Same.refl H) hp (fun i σ H1 => H1 = H ∧ ∃ v o, σ = [some (.ref p), some v, o] ∧ Fq K H v (((r0 :: rt).take i).foldl (fun f y => if f < y then y else f) r0)) ⟨rfl, x0, none, rfl, hq0⟩ ?_ ?_
    · rintro i x σ H1 hi e ⟨rfl, v, o, rfl, hv⟩
      obtain ⟨r, hr, hq⟩ := hxs.get hi
      have hb : Bd (((r0 :: rt).take i).foldl (fun f y => if f < y then y else f) r0) := by
        rcases max_mem ((r0 :: rt).take i) r0 with z | z
        · rw [z]
          exact ps r0 List.mem_cons_self
        · exact ps _ (List.mem_of_mem_take z)
      repeat wtm_at "lwst"
      refine ⟨v, x, _, r, rfl, hv, hq, hb, ps r (mem_ix hr), ?_⟩
      repeat wtm_at "lwst"
      refine cond_2 (fun c => ?_) (fun c => ?_)
      · repeat wtm_at "lwst"
        refine ⟨Same.refl _, rfl, x, some x, rfl, ?_⟩
        rw [max_take hr, if_pos (of_decide_eq_true c)]
        exact hq
      · repeat wtm_at "lwst"
        refine ⟨Same.refl _, rfl, v, some x, rfl, ?_⟩
        rw [max_take hr, if_neg (of_decide_eq_false c)]
        exact hv
    · rintro σ H1 e ⟨rfl, v, o, rfl, hv⟩
      repeat wtm_at "lwst"
      refine k v ?_
      rw [hxs.len, List.take_length] at hv
      exact hv
theorem lcm_take {l : List Rw} {i : Nat} {x : Rw} (h : l[i]? = some x) : lcmL (l.take (i + 1)) = lcmL (l.take i) / Nat.gcd (lcmL (l.take i)) x.den * x.den := by
  unfold lcmL
  rw [List.take_succ, h, List.foldl_append]
  rfl
theorem lcm_pos (l : List Rw) : 0 < lcmL l := by
  unfold lcmL
  suffices h : ∀ (l : List Rw) (d : Nat), 0 < d → 0 < l.foldl (fun d x => d / Nat.gcd d x.den * x.den) d from h l 1 (by decide)
  intro l
  induction l with
  | nil => exact fun d h => h
  | cons x r ih =>
    intro d h
    rw [List.foldl_cons]
    refine ih _ (Nat.mul_pos (Nat.div_pos (Nat.le_of_dvd h (Nat.gcd_dvd_left _ _)) (Nat.gcd_pos_of_pos_left _ h)) x.den_pos)
def sp_common_below (K : PySem.W.Frag) (C : Addr) : Sp := fun vs H Q _ => ∃ (a : V) (rs : List Rw), vs = [a] ∧ Fs K H a rs ∧ (∀ r ∈ rs, Bd r) ∧ (∀ i, (lcmL (rs.take i)).log2 < 8000) ∧ Q (.int ((lcmL rs : Nat) : Int)) H
abbrev s_common_below : Stmt := top 15
theorem sc_common_below : FnScope ["quotients", "found", "each"] ["quotients"] (defScope s_common_below) := ⟨rfl, rfl, rfl, by decide +kernel, rfl, by decide +kernel, by decide +kernel⟩
theorem ok_common_below (T : Tx K mg az an aw d1 d2 d3 C) (h : Has K mg "common_below" s_common_below ["quotients"]) (O_common_divisor : Ok P w K mg base "common_divisor" 1 ["one", "other"] (sp_common_divisor K C)) :
    Ok P w K mg base "common_below" 2 ["quotients"] (sp_common_below K C) := by
  refine ok_of h sc_common_below (fun vs H Q E h => ?_) (fun f cdv A outer s H vs Q E hr h => ⟨_, (pss_cons (ps_set (i := 1) sc_common_below.nd rfl (Or.inl rfl) pe_int)
      (pss_cons (ps_for PassesOwn.never rfl (pi_list (pv 0)) (pg_name (i := 2) sc_common_below.nd rfl (Or.inl rfl)) (pss_one (ps_set (i := 1) sc_common_below.nd rfl (Or.inl rfl) (pe_op op_mulW (pe_op op_fdivW (pv 1) (pe_go O_common_divisor (hr.mono (by decide)) (by rfl) (pa_cons (pv 1) (pa_cons (pe_ix (ix_tupK (K := K) rfl) (pv 2) pe_int (fun _ _ => rfl)) pa_nil)))) (pe_ix (ix_tupK (K := K) rfl) (pv 2) pe_int (fun _ _ => rfl))))))
      (pss_one (ps_ret (pv 1))))), ?_⟩)
  · first | (obtain ⟨_, rfl, _⟩ := h; rfl) | (obtain ⟨_, _, rfl, _⟩ := h; rfl) | (obtain ⟨_, _, _, rfl, _⟩ := h; rfl) | (obtain ⟨_, _, _, _, rfl, _⟩ := h; rfl) | (obtain ⟨_, _, _, _, _, rfl, _⟩ := h; rfl) | (obtain ⟨_, _, _, _, _, _, rfl, _⟩ := h; rfl) | (obtain ⟨_, _, _, _, _, _, _, rfl, _⟩ := h; rfl) | (obtain ⟨_, _, _, _, _, _, _, _, rfl, _⟩ := h; rfl) | (obtain ⟨_, _, _, _, _, _, _, _, _, rfl, _⟩ := h; rfl) | (obtain ⟨_, _, _, _, _, _, _, _, _, _, rfl, _⟩ := h; rfl) | (obtain ⟨_, _, _, _, _, _, _, _, _, _, _, rfl, _⟩ := h; rfl) | (obtain ⟨_, _, _, _, _, _, _, _, _, _, _, _, rfl, _⟩ := h; rfl) | (obtain ⟨_, _, _, _, _, _, _, _, _, _, _, _, _, rfl, _⟩ := h; rfl)

  · obtain ⟨a, rs, rfl, ⟨p, xs, rfl, hp, hxs⟩, ps, hl, k⟩ := h
    repeat wtm_at "lwst"
    refine go_forL (Same.refl H) hp (fun i σ H1 => H1 = H ∧ ∃ o, σ = [some (.ref p), some (.int ((lcmL (rs.take i) : Nat) : Int)), o]) ⟨rfl, none, rfl⟩ ?_ ?_
    · rintro i x σ H1 hi e ⟨rfl, o, rfl⟩
      obtain ⟨r, hr, ⟨q, rfl, hq⟩⟩ := hxs.get hi
      repeat wtm_at "lwst"
      refine ⟨_, _, rfl, ?_⟩
      have h1 := hl i
      have h2 := (ps r (mem_ix hr)).2
      have hp := lcm_pos (rs.take i)
      have hg := Nat.gcd_pos_of_pos_left r.den hp
      have hgl := log2_mono (Nat.le_of_dvd hp (Nat.gcd_dvd_left (lcmL (rs.take i)) r.den))
      rw [Int.natAbs_natCast, Int.natAbs_natCast]
      refine st_rI ⟨by omega, by rw [Int.natAbs_natCast]; omega⟩ ?_
      repeat wtm_at "lwst"
      have h3 := log2_mono (Nat.div_le_self (lcmL (rs.take i)) (Nat.gcd (lcmL (rs.take i)) r.den))
      refine st_rI (by
        unfold CMulW
        rw [← Int.natCast_ediv, Int.natAbs_natCast, Int.natAbs_natCast]
        omega) ?_
      repeat wtm_at "lwst"
      refine ⟨Same.refl _, rfl, some (.ref q), ?_⟩
      rw [lcm_take hr, Int.natCast_mul, Int.natCast_ediv]
      rfl
    · rintro σ H1 e ⟨rfl, o, rfl⟩
      repeat wtm_at "lwst"
      rw [hxs.len, List.take_length]
      exact k
theorem frs_take {l : List Rw} {i : Nat} {x : Rw} (h : l[i]? = some x) : frs (l.take (i + 1)) = frs (l.take i) ++ [x.num, (x.den : Int)] := by
  unfold frs
  rw [List.take_succ, h, List.flatMap_append]
  rfl
theorem frs_len (l : List Rw) : (frs l).length = 2 * l.length := by
  unfold frs
  induction l with
  | nil => rfl
  | cons x r ih =>
    rw [List.flatMap_cons, List.length_append, ih]
    show 2 + 2 * r.length = 2 * (r.length + 1)
    omega
def sp_numbers_of (K : PySem.W.Frag) (C : Addr) : Sp := fun vs H Q _ => ∃ (a : V) (rs : List Rw), vs = [a] ∧ Fs K H a rs ∧ rs.length ≤ 1000 ∧ ∀ p H', H p = none → Same H H' → H' p = some (.lst ((frs rs).map V.int)) → Q (.ref p) H'
abbrev s_numbers_of : Stmt := top 16
theorem sc_numbers_of : FnScope ["quotients", "found", "above", "below"] ["quotients"] (defScope s_numbers_of) := ⟨rfl, rfl, rfl, by decide +kernel, rfl, by decide +kernel, by decide +kernel⟩
theorem ok_numbers_of (T : Tx K mg az an aw d1 d2 d3 C) (h : Has K mg "numbers_of" s_numbers_of ["quotients"]) :
    Ok P w K mg base "numbers_of" 1 ["quotients"] (sp_numbers_of K C) := by
  refine ok_of h sc_numbers_of (fun vs H Q E h => ?_) (fun f cdv A outer s H vs Q E hr h => ⟨_, (pss_cons (ps_set (i := 1) sc_numbers_of.nd rfl (Or.inl rfl) (pe_lst pa_nil))
      (pss_cons (ps_for PassesOwn.never rfl (pi_list (pv 0)) (pg_tupK (K := K) (n := 2) rfl rfl (pgs_cons (pg_name (i := 2) sc_numbers_of.nd rfl (Or.inl rfl)) (pgs_cons (pg_name (i := 3) sc_numbers_of.nd rfl (Or.inl rfl)) pgs_nil))) (pss_cons (ps_expr (pe_bm PySem.F.plainAttrs_list PySem.F.slot_list_append PySem.F.type_list_append mt_append (pv 1) (pa_cons (pv 2) pa_nil)))
      (pss_one (ps_expr (pe_bm PySem.F.plainAttrs_list PySem.F.slot_list_append PySem.F.type_list_append mt_append (pv 1) (pa_cons (pv 3) pa_nil))))))
      (pss_one (ps_ret (pv 1))))), ?_⟩)
  · first | (obtain ⟨_, rfl, _⟩ := h; rfl) | (obtain ⟨_, _, rfl, _⟩ := h; rfl) | (obtain ⟨_, _, _, rfl, _⟩ := h; rfl) | (obtain ⟨_, _, _, _, rfl, _⟩ := h; rfl) | (obtain ⟨_, _, _, _, _, rfl, _⟩ := h; rfl) | (obtain ⟨_, _, _, _, _, _, rfl, _⟩ := h; rfl) | (obtain ⟨_, _, _, _, _, _, _, rfl, _⟩ := h; rfl) | (obtain ⟨_, _, _, _, _, _, _, _, rfl, _⟩ := h; rfl) | (obtain ⟨_, _, _, _, _, _, _, _, _, rfl, _⟩ := h; rfl) | (obtain ⟨_, _, _, _, _, _, _, _, _, _, rfl, _⟩ := h; rfl) | (obtain ⟨_, _, _, _, _, _, _, _, _, _, _, rfl, _⟩ := h; rfl) | (obtain ⟨_, _, _, _, _, _, _, _, _, _, _, _, rfl, _⟩ := h; rfl) | (obtain ⟨_, _, _, _, _, _, _, _, _, _, _, _, _, rfl, _⟩ := h; rfl)

  · obtain ⟨a, rs, rfl, ⟨p, xs, rfl, hp, hxs⟩, hl, k⟩ := h
    repeat wtm_at "lwst"
    refine new_l (by simp) fun l H1 hn e1 hl1 => ?_
    repeat wtm_at "lwst"
    refine go_forL (H0 := H) e1 hp (fun i σ H1 => H1 l = some (.lst ((frs (rs.take i)).map V.int)) ∧ ∃ o1 o2, σ = [some (.ref p), some (.ref l), o1, o2]) ⟨hl1, none, none, rfl⟩ ?_ ?_
    · rintro i x σ H2 hi e2 ⟨hl2, o1, o2, rfl⟩
      obtain ⟨r, hr, ⟨q, rfl, hq⟩⟩ := hxs.get hi
      have lt : i < rs.length := (List.getElem?_eq_some_iff.mp hr).1
      repeat wtm_at "lwst"
      refine bm_list (SqL.of hl2) ?_
      repeat wtm_at "lwst"
      refine st_append hl2 (by rw [List.length_map, frs_len, List.length_take]; omega) ?_
      repeat wtm_at "lwst"
      refine bm_list (SqL.of upd_same) ?_
      repeat wtm_at "lwst"
      refine st_append upd_same (by rw [List.length_append, List.length_map, frs_len, List.length_take]; simp; omega) ?_
      repeat wtm_at "lwst"
      refine ⟨same_mut (same_mut e2 hn) hn, ?_, some (.int r.num), some (.int (r.den : Int)), rfl⟩
      rw [upd_same, frs_take hr, List.map_append, List.append_assoc]
      rfl
    · rintro σ H2 e2 ⟨hl2, o1, o2, rfl⟩
      repeat wtm_at "lwst"
      rw [hxs.len, List.take_length] at hl2
      exact k l H2 hn e2 hl2
end
end Lw

namespace Lw
open PySem PySem.Spec PyProof.Rows L2
/-! ## The study in the heap -/
/-- a row of whole numbers, of quotients; F: what may be written -/
def Rn (F : List Addr) (H : Hp) (v : V) (ns : List Nat) : Prop := ∃ p, v = .ref p ∧ p ∉ F ∧ H p = some (.lst ((nz ns).map V.int))
def Rq (K : PySem.W.Frag) (F : List Addr) (H : Hp) (v : V) (rs : List Rw) : Prop := ∃ p xs, v = .ref p ∧ p ∉ F ∧ H p = some (.lst xs) ∧ All2 (Fq K H) xs rs
theorem Rn.up {F : List Addr} {H H' : Hp} {v : V} {ns : List Nat} (e : Same H H') (h : Rn F H v ns) : Rn F H' v ns :=
  let ⟨p, a, b, c⟩ := h
  ⟨p, a, b, e _ _ c⟩
theorem Rq.up {K : PySem.W.Frag} {F : List Addr} {H H' : Hp} {v : V} {rs : List Rw} (e : Same H H') (h : Rq K F H v rs) : Rq K F H' v rs :=
  let ⟨p, xs, a, b, c, d⟩ := h
  ⟨p, xs, a, b, e _ _ c, d.imp fun _ _ q => q.up e⟩
/-- where the study's objects lie -/
structure Lay where
  a : Addr
  dx : Addr
  ev : Addr
  po : Addr
  ps : List Addr
  mo : Addr
  tw : Addr
  tr : Addr
/-- what a call may write -/
def Lay.F (L : Lay) : List Addr := L.a :: L.po :: L.mo :: L.tw :: L.tr :: L.ps
def flds (L : Lay) (m : M) : List (Str × V) :=
  [("contexts", .int (m.nc : Int)), ("actions", .int (m.na : Int)), ("events", .ref L.ev), ("policies", .ref L.po), ("model", .ref L.mo), ("truth_weights", .ref L.tw), ("truth_rewards", .ref L.tr)]
/-- one policy: its rows -/
def Pl (F : List Addr) (H : Hp) (p : Addr) (P : List (List Nat)) : Prop := ∃ xs, H p = some (.lst xs) ∧ All2 (Rn F H) xs P
theorem Pl.up {F : List Addr} {H H' : Hp} {p : Addr} {P : List (List Nat)} (e : Same H H') (h : Pl F H p P) : Pl F H' p P :=
  let ⟨xs, a, b⟩ := h
  ⟨xs, e _ _ a, b.imp fun _ _ q => q.up e⟩
structure St (K : PySem.W.Frag) (C : Addr) (H : Hp) (L : Lay) (m : M) : Prop where
  at_ : H L.a = some (.ins C L.dx (flds L m))
  evF : L.ev ∉ L.F
  ev : ∃ xs, H L.ev = some (.lst xs) ∧ All2 (Eq4 K H) xs m.ev
  po : H L.po = some (.lst (L.ps.map V.ref))
  ps : All2 (Pl L.F H) L.ps m.pol
  mo : ∃ xs, H L.mo = some (.lst xs) ∧ All2 (Rq K L.F H) xs m.mo
  tw : H L.tw = some (.lst ((nz m.tw).map V.int))
  tr : ∃ xs, H L.tr = some (.lst xs) ∧ All2 (Rn L.F H) xs m.tr
  nd : L.F.Nodup
theorem St.up {K : PySem.W.Frag} {C : Addr} {H H' : Hp} {L : Lay} {m : M} (e : Same H H') (S : St K C H L m) : St K C H' L m :=
  ⟨e _ _ S.at_, S.evF, let ⟨xs, a, b⟩ := S.ev; ⟨xs, e _ _ a, b.imp fun _ _ q => q.up e⟩, e _ _ S.po, S.ps.imp fun _ _ q => q.up e,
    let ⟨xs, a, b⟩ := S.mo; ⟨xs, e _ _ a, b.imp fun _ _ q => q.up e⟩, e _ _ S.tw, let ⟨xs, a, b⟩ := S.tr; ⟨xs, e _ _ a, b.imp fun _ _ q => q.up e⟩, S.nd⟩
/-- what stays true of the study's numbers -/
structure Wf (m : M) : Prop where
  nc1 : 1 ≤ m.nc
  nc6 : m.nc ≤ 6
  na1 : 1 ≤ m.na
  na5 : m.na ≤ 5
  ev40 : m.ev.length ≤ 40
  ev : ∀ e ∈ m.ev, e.c < m.nc ∧ e.a < m.na ∧ e.r ≤ 100 ∧ 0 < e.p ∧ e.p.num ≤ 1000 ∧ e.p.den ≤ 5000
  pol3 : m.pol.length = 3
  pol : ∀ P ∈ m.pol, P.length = m.nc ∧ ∀ w ∈ P, w.length = m.na ∧ (∀ x ∈ w, x ≤ 1000) ∧ 0 < w.sum
  mo : m.mo.length = m.nc ∧ ∀ r ∈ m.mo, r.length = m.na ∧ ∀ q ∈ r, 0 ≤ q ∧ q ≤ 100 ∧ q.den ≤ 40
  tw : m.tw.length = m.nc ∧ ∀ x ∈ m.tw, 1 ≤ x ∧ x ≤ 1000
  tr : m.tr.length = m.nc ∧ ∀ r ∈ m.tr, r.length = m.na ∧ ∀ x ∈ r, x ≤ 100
/-! ### reading a field -/
theorem lk_here {k : Str} {v : V} {r : List (Str × V)} : List.lookup k ((k, v) :: r) = some v := by
  have e : (k == k) = true := beq_self_eq_true k
  simp only [List.lookup, e]
theorem lk_past {k g : Str} {v : V} {r : List (Str × V)} (h : (k == g) = false) : List.lookup k ((g, v) :: r) = List.lookup k r := by
  simp only [List.lookup, h]
theorem put_here {f : Str} {v x : V} {r : List (Str × V)} : putF f v ((f, x) :: r) = (f, v) :: r := if_pos rfl
theorem put_past {f g : Str} {v x : V} {r : List (Str × V)} (h : ¬ g = f) : putF f v ((g, x) :: r) = (g, x) :: putF f v r := if_neg h
theorem lk_contexts (L : Lay) (m : M) : (flds L m).lookup ("contexts" : Str) = some (.int (m.nc : Int)) := lk_here
theorem lk_actions (L : Lay) (m : M) : (flds L m).lookup ("actions" : Str) = some (.int (m.na : Int)) := (lk_past (by decide +kernel)).trans lk_here
theorem lk_events (L : Lay) (m : M) : (flds L m).lookup ("events" : Str) = some (.ref L.ev) := (lk_past (by decide +kernel)).trans ((lk_past (by decide +kernel)).trans lk_here)
theorem lk_policies (L : Lay) (m : M) : (flds L m).lookup ("policies" : Str) = some (.ref L.po) := (lk_past (by decide +kernel)).trans ((lk_past (by decide +kernel)).trans ((lk_past (by decide +kernel)).trans lk_here))
theorem lk_model (L : Lay) (m : M) : (flds L m).lookup ("model" : Str) = some (.ref L.mo) := (lk_past (by decide +kernel)).trans ((lk_past (by decide +kernel)).trans ((lk_past (by decide +kernel)).trans ((lk_past (by decide +kernel)).trans lk_here)))
theorem lk_tw (L : Lay) (m : M) : (flds L m).lookup ("truth_weights" : Str) = some (.ref L.tw) := (lk_past (by decide +kernel)).trans ((lk_past (by decide +kernel)).trans ((lk_past (by decide +kernel)).trans ((lk_past (by decide +kernel)).trans ((lk_past (by decide +kernel)).trans lk_here))))
theorem lk_tr (L : Lay) (m : M) : (flds L m).lookup ("truth_rewards" : Str) = some (.ref L.tr) := (lk_past (by decide +kernel)).trans ((lk_past (by decide +kernel)).trans ((lk_past (by decide +kernel)).trans ((lk_past (by decide +kernel)).trans ((lk_past (by decide +kernel)).trans ((lk_past (by decide +kernel)).trans lk_here)))))
/-- a method's name is none of the attributes -/
theorem lk_none (L : Lay) (m : M) {f : Str} (h : (["contexts", "actions", "events", "policies", "model", "truth_weights", "truth_rewards"] : List Str).all (fun g => !(f == g)) = true) : (flds L m).lookup f = none := by
  simp only [List.all_cons, List.all_nil, Bool.and_true, Bool.and_eq_true, Bool.not_eq_true'] at h
  obtain ⟨h1, h2, h3, h4, h5, h6, h7⟩ := h
  exact (lk_past h1).trans ((lk_past h2).trans ((lk_past h3).trans ((lk_past h4).trans ((lk_past h5).trans ((lk_past h6).trans ((lk_past h7).trans rfl))))))
section
variable {K : PySem.W.Frag} {mg : Str → Option Value} {az an aw d1 d2 d3 C : Addr} {H : Hp} {L : Lay} {m : M} {Q : VK}
theorem fl_contexts (T : Tx K mg az an aw d1 d2 d3 C) (S : St K C H L m) (q : Q (.int (m.nc : Int)) H) : fld K "contexts" Q (.ref L.a) H := ⟨_, _, _, _, _, rfl, S.at_, T.cl, T.n_contexts, lk_contexts L m, q⟩
theorem fl_actions (T : Tx K mg az an aw d1 d2 d3 C) (S : St K C H L m) (q : Q (.int (m.na : Int)) H) : fld K "actions" Q (.ref L.a) H := ⟨_, _, _, _, _, rfl, S.at_, T.cl, T.n_actions, lk_actions L m, q⟩
theorem fl_events (T : Tx K mg az an aw d1 d2 d3 C) (S : St K C H L m) (q : Q (.ref L.ev) H) : fld K "events" Q (.ref L.a) H := ⟨_, _, _, _, _, rfl, S.at_, T.cl, T.n_events, lk_events L m, q⟩
theorem fl_policies (T : Tx K mg az an aw d1 d2 d3 C) (S : St K C H L m) (q : Q (.ref L.po) H) : fld K "policies" Q (.ref L.a) H := ⟨_, _, _, _, _, rfl, S.at_, T.cl, T.n_policies, lk_policies L m, q⟩
theorem fl_model (T : Tx K mg az an aw d1 d2 d3 C) (S : St K C H L m) (q : Q (.ref L.mo) H) : fld K "model" Q (.ref L.a) H := ⟨_, _, _, _, _, rfl, S.at_, T.cl, T.n_model, lk_model L m, q⟩
theorem fl_tw (T : Tx K mg az an aw d1 d2 d3 C) (S : St K C H L m) (q : Q (.ref L.tw) H) : fld K "truth_weights" Q (.ref L.a) H := ⟨_, _, _, _, _, rfl, S.at_, T.cl, T.n_truth_weights, lk_tw L m, q⟩
theorem fl_tr (T : Tx K mg az an aw d1 d2 d3 C) (S : St K C H L m) (q : Q (.ref L.tr) H) : fld K "truth_rewards" Q (.ref L.a) H := ⟨_, _, _, _, _, rfl, S.at_, T.cl, T.n_truth_rewards, lk_tr L m, q⟩
theorem meth_go {sp : Sp} {E : XK} {t : TA} {σ : L2.St} {f : Str} (S : St K C H L m) (h : (["contexts", "actions", "events", "policies", "model", "truth_weights", "truth_rewards"] : List Str).all (fun g => !(f == g)) = true)
    (q : t σ H fun vs H2 => sp (.ref L.a :: vs) H2 Q E) : meth1 C f sp E t σ Q (.ref L.a) H := by
  refine ⟨L.a, _, _, rfl, S.at_, lk_none L m h, ?_⟩
  have e : (fun (vs : List V) (H2 : Hp) => sp (V.ref L.a :: (vs ++ [])) H2 Q E) = fun vs H2 => sp (.ref L.a :: vs) H2 Q E := by
    funext vs H2
    rw [List.append_nil]
  rw [e]
  exact q
theorem nz_len (ns : List Nat) : (nz ns).length = ns.length := List.length_map _
theorem nzV_len (ns : List Nat) : ((nz ns).map V.int).length = ns.length := by rw [List.length_map, nz_len]
theorem nz_get {ns : List Nat} {i : Nat} (h : i < ns.length) : ((nz ns).map V.int)[i]? = some (.int ((ns.getD i 0 : Nat) : Int)) := by
  unfold nz
  rw [List.map_map, List.getElem?_map, List.getElem?_eq_getElem h, List.getD_eq_getElem?_getD, List.getElem?_eq_getElem h]
  rfl
theorem nz_sum (ns : List Nat) : (nz ns).sum = ((ns.sum : Nat) : Int) := by
  unfold nz
  induction ns with
  | nil => rfl
  | cons x r ih => rw [List.map_cons, List.sum_cons, ih, List.sum_cons, Int.natCast_add]
/-- a policy's row, where it lies -/
theorem sta_row (S : St K C H L m) (W : Wf m) {k c : Nat} (hk : k < 3) (hc : c < m.nc) : ∃ p q xs, L.ps[k]? = some p ∧ H p = some (.lst xs) ∧ xs[c]? = some (.ref q) ∧ H q = some (.lst ((nz (wts m k c)).map V.int)) ∧ (wts m k c).length = m.na ∧ (∀ x ∈ wts m k c, x ≤ 1000) ∧ 0 < (wts m k c).sum := by
  have hP : m.pol[k]? = some (m.pol[k]'(by rw [W.pol3]; exact hk)) := List.getElem?_eq_getElem _
  obtain ⟨p, hp, xs, hx, hr⟩ := S.ps.get' hP
  have hw := W.pol _ (List.mem_of_getElem? hP)
  have hc' : c < (m.pol[k]'(by rw [W.pol3]; exact hk)).length := by rw [hw.1]; exact hc
  have hC : (m.pol[k]'(by rw [W.pol3]; exact hk))[c]? = some ((m.pol[k]'(by rw [W.pol3]; exact hk))[c]) := List.getElem?_eq_getElem hc'
  obtain ⟨v, hv, q, rfl, _, hq⟩ := hr.get' hC
  have e : wts m k c = (m.pol[k]'(by rw [W.pol3]; exact hk))[c] := by
    unfold wts
    rw [List.getD_eq_getElem?_getD (l := m.pol), hP, Option.getD_some, List.getD_eq_getElem?_getD, hC, Option.getD_some]
  have h3 := hw.2 _ (List.mem_of_getElem? hC)
  refine ⟨p, q, xs, hp, hx, hv, ?_⟩
  rw [e]
  exact ⟨hq, h3⟩
/-- an estimated reward, where it lies -/
theorem sta_est (S : St K C H L m) (W : Wf m) {c a : Nat} (hc : c < m.nc) (ha : a < m.na) : ∃ q xs ys v, H L.mo = some (.lst xs) ∧ xs[c]? = some (.ref q) ∧ H q = some (.lst ys) ∧ ys[a]? = some v ∧ Fq K H v (est m c a) := by
  obtain ⟨xs, hx, hr⟩ := S.mo
  have hc' : c < m.mo.length := by rw [W.mo.1]; exact hc
  have hC : m.mo[c]? = some m.mo[c] := List.getElem?_eq_getElem hc'
  obtain ⟨v, hv, q, ys, rfl, _, hq, hys⟩ := hr.get' hC
  have ha' : a < m.mo[c].length := by rw [(W.mo.2 _ (List.mem_of_getElem? hC)).1]; exact ha
  have hA : m.mo[c][a]? = some (m.mo[c][a]) := List.getElem?_eq_getElem ha'
  obtain ⟨u, hu, hf⟩ := hys.get' hA
  refine ⟨q, xs, ys, u, hx, hv, hq, hu, ?_⟩
  have e : est m c a = m.mo[c][a] := by
    unfold Lw.est
    rw [List.getD_eq_getElem?_getD (l := m.mo), hC, Option.getD_some, List.getD_eq_getElem?_getD, hA, Option.getD_some]
  rw [e]
  exact hf
/-- an assumed reward -/
theorem sta_rew (S : St K C H L m) (W : Wf m) {c a : Nat} (hc : c < m.nc) (ha : a < m.na) : ∃ q xs ys, H L.tr = some (.lst xs) ∧ xs[c]? = some (.ref q) ∧ H q = some (.lst ys) ∧ ys[a]? = some (.int ((rew m c a : Nat) : Int)) := by
  obtain ⟨xs, hx, hr⟩ := S.tr
  have hc' : c < m.tr.length := by rw [W.tr.1]; exact hc
  have hC : m.tr[c]? = some m.tr[c] := List.getElem?_eq_getElem hc'
  obtain ⟨v, hv, q, rfl, _, hq⟩ := hr.get' hC
  have ha' : a < m.tr[c].length := by rw [(W.tr.2 _ (List.mem_of_getElem? hC)).1]; exact ha
  refine ⟨q, xs, _, hx, hv, hq, ?_⟩
  rw [nz_get ha']
  have e : rew m c a = m.tr[c].getD a 0 := by
    unfold Lw.rew
    rw [List.getD_eq_getElem?_getD (l := m.tr), hC, Option.getD_some]
  rw [e]
end
end Lw

namespace Lw
/-! ## Sizes: an integer over a common denominator -/
def Sz (D V : Nat) (r : Rw) : Prop := 0 < D ∧ ∃ z : Int, r = mkRat z D ∧ z.natAbs ≤ V * D
theorem natR {n : Nat} (h : 0 < n) : (n : Rat) ≠ 0 := by
  have := Rat.natCast_pos.mpr h
  exact Rat.ne_of_gt this
section
variable {D E V U : Nat} {r s : Rw}
theorem Sz.mono (h : Sz D V r) (hv : V ≤ U) : Sz D U r :=
  let ⟨a, z, b, c⟩ := h
  ⟨a, z, b, Nat.le_trans c (Nat.mul_le_mul_right D hv)⟩
theorem Sz.up (h : Sz D V r) (hd : D ∣ E) (he : 0 < E) : Sz E V r := by
  obtain ⟨a, z, b, c⟩ := h
  obtain ⟨q, rfl⟩ := hd
  have hq : q ≠ 0 := fun e => by rw [e, Nat.mul_zero] at he; omega
  refine ⟨he, z * (q : Int), ?_, ?_⟩
  · rw [b, Rat.mkRat_mul_right hq]
  · rw [Int.natAbs_mul, Int.natAbs_natCast, ← Nat.mul_assoc]
    exact Nat.mul_le_mul_right q c
theorem Sz.add (h : Sz D V r) (k : Sz D U s) : Sz D (V + U) (r + s) := by
  obtain ⟨a, z, rfl, c⟩ := h
  obtain ⟨_, y, rfl, d⟩ := k
  refine ⟨a, z + y, ?_, ?_⟩
  · rw [Rat.mkRat_add_mkRat _ _ (by omega) (by omega), ← Int.add_mul, Rat.mkRat_mul_right (by omega)]
  · rw [Nat.add_mul]
    omega
theorem Sz.neg (h : Sz D V r) : Sz D V (-r) := by
  obtain ⟨a, z, rfl, c⟩ := h
  exact ⟨a, -z, Rat.neg_mkRat _ _, by rw [Int.natAbs_neg]; exact c⟩
theorem Sz.sub (h : Sz D V r) (k : Sz D U s) : Sz D (V + U) (r - s) := by
  rw [Rat.sub_eq_add_neg]
  exact h.add k.neg
theorem Sz.mul (h : Sz D V r) (k : Sz E U s) : Sz (D * E) (V * U) (r * s) := by
  obtain ⟨a, z, rfl, c⟩ := h
  obtain ⟨b, y, rfl, d⟩ := k
  refine ⟨Nat.mul_pos a b, z * y, Rat.mkRat_mul_mkRat _ _ _ _, ?_⟩
  rw [Int.natAbs_mul, Nat.mul_mul_mul_comm V U D E]
  exact Nat.mul_le_mul c d
theorem sz_zero (h : 0 < D) : Sz D V 0 := ⟨h, 0, (Rat.zero_mkRat D).symm, Nat.zero_le _⟩
theorem sz_sum {l : List Rw} (hD : 0 < D) (h : ∀ x ∈ l, Sz D V x) : Sz D (l.length * V) l.sum := by
  induction l with
  | nil => exact sz_zero hD
  | cons x t ih =>
    rw [List.sum_cons, List.length_cons, Nat.succ_mul, Nat.add_comm]
    exact (h x List.mem_cons_self).add (ih fun y hy => h y (List.mem_cons_of_mem _ hy))
theorem sz_mk {n d : Nat} (hd : 0 < d) (h : n ≤ V * d) : Sz d V (mkRat (n : Int) d) := ⟨hd, n, rfl, by rw [Int.natAbs_natCast]; exact h⟩
theorem sz_nat {n : Nat} (h : n ≤ V) : Sz 1 V ((n : Nat) : Rw) := by
  refine ⟨by decide, n, ?_, by rw [Int.natAbs_natCast]; omega⟩
  exact (Rat.mkRat_self ((n : Nat) : Rat)).symm
theorem Sz.div {n : Nat} (h : Sz D (n * V) r) (hn : 0 < n) : Sz (D * n) V (r / (n : Rat)) := by
  obtain ⟨a, z, rfl, c⟩ := h
  refine ⟨Nat.mul_pos a hn, z, ?_, by rw [Nat.mul_comm D n, ← Nat.mul_assoc, Nat.mul_comm V n]; exact c⟩
  rw [Rat.mkRat_eq_div, Rat.mkRat_eq_div, Rat.natCast_mul]
  have a1 := natR a
  have a2 := natR hn
  generalize ((D : Nat) : Rat) = d at *
  generalize ((n : Nat) : Rat) = o at *
  generalize ((z : Int) : Rat) = y at *
  grind
theorem log2_lt {n k : Nat} (h : n < 2 ^ k) (hk : 0 < k) : n.log2 < k := by
  rcases Nat.eq_zero_or_pos n with h0 | h0
  · subst h0
    exact hk
  · exact (Nat.log2_lt (by omega)).mpr h
theorem Sz.den (h : Sz D V r) : r.den ∣ D := by
  obtain ⟨a, z, rfl, _⟩ := h
  rw [Rat.den_mkRat, if_neg (by omega)]
  exact Nat.div_dvd_of_dvd (Nat.gcd_dvd_left _ _)
theorem Sz.num (h : Sz D V r) : r.num.natAbs ≤ V * D := by
  obtain ⟨a, z, rfl, c⟩ := h
  rw [Rat.num_mkRat, if_neg (by omega)]
  refine Nat.le_trans ?_ c
  exact Int.natAbs_ediv_le_natAbs _ _
theorem Sz.bd {a v : Nat} (h : Sz D V r) (ha : D ≤ 2 ^ a) (hv : V ≤ 2 ^ v) (hs : v + a < 4399) : Bd r := by
  have p1 : (2 : Nat) ^ a < 2 ^ 4400 := Nat.pow_lt_pow_right (by decide) (by omega)
  have p2 : (2 : Nat) ^ (v + a) < 2 ^ 4400 := Nat.pow_lt_pow_right (by decide) (by omega)
  refine ⟨log2_lt ?_ (by decide), log2_lt ?_ (by decide)⟩
  · refine Nat.lt_of_le_of_lt (Nat.le_trans h.num ?_) p2
    rw [Nat.pow_add]
    exact Nat.mul_le_mul hv ha
  · exact Nat.lt_of_le_of_lt (Nat.le_trans (Nat.le_of_dvd h.1 h.den) ha) p1
/-- a list's items and its sums of the first ones -/
theorem ps_of {l : List Rw} {a v : Nat} (h : ∀ x ∈ l, Sz D V x) (hD : 0 < D) (ha : D ≤ 2 ^ a) (hv : V ≤ 2 ^ v) (hl : l.length ≤ 64) (hs : v + a < 4300) : Ps l := by
  refine ⟨fun x hx => (h x hx).bd ha hv (by omega), fun i => ?_⟩
  have s := sz_sum hD fun x hx => h x (List.mem_of_mem_take (i := i) hx)
  refine s.bd (v := v + 6) ha ?_ (by omega)
  rw [Nat.pow_add, Nat.mul_comm]
  refine Nat.mul_le_mul hv (Nat.le_trans ?_ hl)
  rw [List.length_take]
  omega
end
/-! products -/
def prodN (l : List Nat) : Nat := l.foldr (· * ·) 1
theorem prodN_pos {l : List Nat} (h : ∀ x ∈ l, 0 < x) : 0 < prodN l := by
  induction l with
  | nil => exact Nat.one_pos
  | cons x r ih => exact Nat.mul_pos (h x List.mem_cons_self) (ih fun y hy => h y (List.mem_cons_of_mem _ hy))
theorem prodN_dvd {l : List Nat} {x : Nat} (h : x ∈ l) : x ∣ prodN l := by
  induction l with
  | nil => cases h
  | cons y r ih =>
    show x ∣ y * prodN r
    rcases List.mem_cons.mp h with rfl | h
    · exact Nat.dvd_mul_right _ _
    · exact Nat.dvd_trans (ih h) (Nat.dvd_mul_left _ _)
theorem prodN_le {l : List Nat} {c n : Nat} (h : ∀ x ∈ l, x ≤ 2 ^ c) (hn : l.length ≤ n) : prodN l ≤ 2 ^ (c * n) := by
  induction l generalizing n with
  | nil => exact Nat.one_le_two_pow
  | cons x r ih =>
    cases n with
    | zero => simp at hn
    | succ n =>
      have h1 := ih (n := n) (fun y hy => h y (List.mem_cons_of_mem _ hy)) (by simpa using hn)
      show x * prodN r ≤ _
      rw [Nat.mul_succ, Nat.pow_add, Nat.mul_comm (2 ^ (c * n))]
      exact Nat.mul_le_mul (h x List.mem_cons_self) h1
theorem sum_le {l : List Nat} {V n : Nat} (h : ∀ x ∈ l, x ≤ V) (hn : l.length ≤ n) : l.sum ≤ n * V := by
  induction l generalizing n with
  | nil => exact Nat.zero_le _
  | cons x r ih =>
    cases n with
    | zero => simp at hn
    | succ n =>
      have h1 := ih (n := n) (fun y hy => h y (List.mem_cons_of_mem _ hy)) (by simpa using hn)
      have := h x List.mem_cons_self
      rw [List.sum_cons, Nat.succ_mul]
      omega
theorem mem_sum {l : List Nat} {x : Nat} (h : x ∈ l) : x ≤ l.sum := by
  induction l with
  | nil => cases h
  | cons y r ih =>
    rw [List.sum_cons]
    rcases List.mem_cons.mp h with rfl | h
    · omega
    · have := ih h
      omega
end Lw

namespace Lw
open L2
/-! ## Sizes of what is computed -/
def EvOk (m : M) (e : Ev) : Prop := e.c < m.nc ∧ e.a < m.na ∧ e.r ≤ 100 ∧ 0 < e.p ∧ e.p.num ≤ 1000 ∧ e.p.den ≤ 5000
/-- a list whose variance is asked -/
def Vs (rs : List Rw) : Prop := Ps rs ∧ Bd (meanR rs) ∧ (∀ r ∈ rs, Bd (r - meanR rs)) ∧ Ps (rs.map fun x => (x - meanR rs) * (x - meanR rs)) ∧ Bd (varR rs)
/-- what the resampling asks of its terms -/
def Bs (rs : List Rw) : Prop := (∀ r ∈ rs, Bd r) ∧ (∀ i, (lcmL (rs.take i)).log2 < 8000) ∧ (∀ r ∈ rs, r.den ∣ lcmL rs) ∧ (lcmL rs * rs.length).log2 < 9000 ∧ rs.length ≤ 40
/-! ### facts of rationals -/
theorem mk_nonneg (n d : Nat) : 0 ≤ mkRat ((n : Nat) : Int) d := by
  rw [← Rat.num_nonneg, Rat.num_mkRat]
  split
  · exact Int.le_refl _
  · exact Int.ediv_nonneg (Int.natCast_nonneg n) (Int.natCast_nonneg _)
theorem mk_pos {n d : Nat} (hn : 0 < n) (hd : 0 < d) : 0 < mkRat ((n : Nat) : Int) d := by
  rw [Rat.mkRat_eq_div]
  show (0 : Rat) < ((n : Nat) : Rat) / ((d : Nat) : Rat)
  rw [Rat.div_def]
  exact Rat.mul_pos (Rat.natCast_pos.mpr hn) (Rat.inv_pos.mpr (Rat.natCast_pos.mpr hd))
theorem sum_nonneg {l : List Rat} (h : ∀ x ∈ l, 0 ≤ x) : 0 ≤ l.sum := by
  induction l with
  | nil => exact Rat.le_refl
  | cons x r ih =>
    rw [List.sum_cons]
    exact Rat.add_nonneg (h x List.mem_cons_self) (ih fun y hy => h y (List.mem_cons_of_mem _ hy))
theorem sq_nonneg (x : Rat) : 0 ≤ x * x := by
  rcases (Rat.le_total : 0 ≤ x ∨ x ≤ 0) with h | h
  · exact Rat.mul_nonneg h h
  · have h2 : 0 ≤ -x := by grind
    have := Rat.mul_nonneg h2 h2
    grind
theorem div_nonneg {x y : Rat} (hx : 0 ≤ x) (hy : 0 < y) : 0 ≤ x / y := by
  rw [Rat.div_def]
  exact Rat.mul_nonneg hx (Rat.le_of_lt (Rat.inv_pos.mpr hy))
section
variable {m : M} {k g c a kind limit : Nat} {e : Ev}
theorem chance_nonneg : 0 ≤ chance m k c a := mk_nonneg _ _
theorem imp_nonneg (hp : 0 < e.p) : 0 ≤ imp m k e := div_nonneg chance_nonneg hp
theorem wts_ok (W : Wf m) (hk : k < 3) (hc : c < m.nc) : (wts m k c).length = m.na ∧ (∀ x ∈ wts m k c, x ≤ 1000) ∧ 0 < (wts m k c).sum := by
  have hP : m.pol[k]? = some (m.pol[k]'(by rw [W.pol3]; exact hk)) := List.getElem?_eq_getElem _
  have hw := W.pol _ (List.mem_of_getElem? hP)
  have hc' : c < (m.pol[k]'(by rw [W.pol3]; exact hk)).length := by rw [hw.1]; exact hc
  have hC : (m.pol[k]'(by rw [W.pol3]; exact hk))[c]? = some ((m.pol[k]'(by rw [W.pol3]; exact hk))[c]) := List.getElem?_eq_getElem hc'
  have e : wts m k c = (m.pol[k]'(by rw [W.pol3]; exact hk))[c] := by
    unfold wts
    rw [List.getD_eq_getElem?_getD (l := m.pol), hP, Option.getD_some, List.getD_eq_getElem?_getD, hC, Option.getD_some]
  rw [e]
  exact hw.2 _ (List.mem_of_getElem? hC)
theorem wsum_le (W : Wf m) (hk : k < 3) (hc : c < m.nc) : (wts m k c).sum ≤ 5000 := by
  have h := wts_ok W hk hc
  have := sum_le h.2.1 (n := 5) (by rw [h.1]; exact W.na5)
  omega
theorem getD_sum (l : List Nat) (i : Nat) : l.getD i 0 ≤ l.sum := by
  rw [List.getD_eq_getElem?_getD]
  cases q : l[i]? with
  | none => exact Nat.zero_le _
  | some x => exact mem_sum (List.mem_of_getElem? q)
/-! ### a policy's chances -/
def Dk (m : M) (k : Nat) : Nat := prodN ((List.range m.nc).map fun c => (wts m k c).sum)
theorem Dk_pos (W : Wf m) (hk : k < 3) : 0 < Dk m k := prodN_pos fun x hx => by
  obtain ⟨c, hc, rfl⟩ := List.mem_map.mp hx
  exact (wts_ok W hk (List.mem_range.mp hc)).2.2
theorem Dk_le (W : Wf m) (hk : k < 3) : Dk m k ≤ 2 ^ 78 := by
  refine prodN_le (c := 13) (n := 6) (fun x hx => ?_) (by rw [List.length_map, List.length_range]; exact W.nc6)
  obtain ⟨c, hc, rfl⟩ := List.mem_map.mp hx
  exact Nat.le_trans (wsum_le W hk (List.mem_range.mp hc)) (by decide)
theorem chance_sz (W : Wf m) (hk : k < 3) (hc : c < m.nc) : Sz (Dk m k) 1 (chance m k c a) := by
  have h := wts_ok W hk hc
  refine (sz_mk h.2.2 (V := 1) ?_).up (prodN_dvd (List.mem_map.mpr ⟨c, List.mem_range.mpr hc, rfl⟩)) (Dk_pos W hk)
  rw [Nat.one_mul]
  exact getD_sum _ _
theorem bd_chance (W : Wf m) (hk : k < 3) (hc : c < m.nc) (ha : a < m.na) : Bd (chance m k c a) := (chance_sz W hk hc).bd (Dk_le W hk) (v := 0) (by decide) (by decide)
/-! ### the model -/
def F40 : Nat := prodN ((List.range 40).map (· + 1))
theorem F40_pos : 0 < F40 := by decide
theorem F40_le : F40 ≤ 2 ^ 160 := by decide
theorem dvd_F40 {d : Nat} (h0 : 0 < d) (h : d ≤ 40) : d ∣ F40 := prodN_dvd (List.mem_map.mpr ⟨d - 1, List.mem_range.mpr (by omega), by omega⟩)
theorem sz_le {r : Rw} {V : Nat} (h0 : 0 ≤ r) (h1 : r ≤ (V : Rw)) : Sz r.den V r := by
  refine ⟨r.den_pos, r.num, (Rat.mkRat_self r).symm, ?_⟩
  have hn : 0 ≤ r.num := Rat.num_nonneg.mpr h0
  have h2 : r.num * (1 : Int) ≤ (V : Int) * (r.den : Int) := by
    have := (Rat.le_iff r ((V : Nat) : Rat)).mp h1
    exact this
  omega
theorem est_ok (W : Wf m) (hc : c < m.nc) (ha : a < m.na) : 0 ≤ est m c a ∧ est m c a ≤ 100 ∧ (est m c a).den ≤ 40 := by
  have hc' : c < m.mo.length := by rw [W.mo.1]; exact hc
  have hC : m.mo[c]? = some m.mo[c] := List.getElem?_eq_getElem hc'
  have h := W.mo.2 _ (List.mem_of_getElem? hC)
  have hA : m.mo[c][a]? = some (m.mo[c][a]'(by rw [h.1]; exact ha)) := List.getElem?_eq_getElem _
  have e : est m c a = m.mo[c][a]'(by rw [h.1]; exact ha) := by
    unfold Lw.est
    rw [List.getD_eq_getElem?_getD (l := m.mo), hC, Option.getD_some, List.getD_eq_getElem?_getD, hA, Option.getD_some]
  rw [e]
  exact h.2 _ (List.mem_of_getElem? hA)
theorem est_sz (W : Wf m) (hc : c < m.nc) (ha : a < m.na) : Sz F40 100 (est m c a) := by
  have h := est_ok W hc ha
  exact (sz_le h.1 (V := 100) h.2.1).up (dvd_F40 (est m c a).den_pos h.2.2) F40_pos
theorem bd_est (W : Wf m) (hc : c < m.nc) (ha : a < m.na) : Bd (est m c a) := (est_sz W hc ha).bd F40_le (v := 7) (by decide) (by decide)
theorem bd_ep (h : EvOk m e) : Bd e.p := by
  have hn : 0 < e.p.num := by
    have := Rat.num_nonneg.mpr (Rat.le_of_lt h.2.2.2.1)
    have h0 : e.p.num ≠ 0 := fun z => by
      have := Rat.num_eq_zero.mp z
      have h3 := h.2.2.2.1
      rw [this] at h3
      exact Rat.lt_irrefl h3
    omega
  have p : (2 : Nat) ^ 13 < 2 ^ 4400 := Nat.pow_lt_pow_right (by decide) (by decide)
  refine ⟨log2_lt (Nat.lt_of_le_of_lt ?_ p) (by decide), log2_lt (Nat.lt_of_le_of_lt ?_ p) (by decide)⟩
  · have := h.2.2.2.2.1
    have e : (2 : Nat) ^ 13 = 8192 := by decide
    omega
  · have := h.2.2.2.2.2
    have e : (2 : Nat) ^ 13 = 8192 := by decide
    omega
/-! ### an event's factor -/
theorem pn_pos (h : 0 < e.p) : 0 < e.p.num.toNat := by
  have := Rat.num_nonneg.mpr (Rat.le_of_lt h)
  have h0 : e.p.num ≠ 0 := fun z => by
    rw [Rat.num_eq_zero.mp z] at h
    exact Rat.lt_irrefl h
  omega
theorem imp_sz (W : Wf m) (hk : k < 3) (h : EvOk m e) {P : Nat} (hP : e.p.num.toNat ∣ P) (h0 : 0 < P) : Sz (Dk m k * P) 5000 (imp m k e) := by
  have hn := pn_pos h.2.2.2.1
  have c1 := chance_sz (a := e.a) W hk h.1
  refine Sz.up ?_ (Nat.mul_dvd_mul_left (Dk m k) hP) (Nat.mul_pos (Dk_pos W hk) h0)
  obtain ⟨d0, z, hz, hc⟩ := c1
  refine ⟨Nat.mul_pos d0 hn, z * (e.p.den : Int), ?_, ?_⟩
  · unfold imp
    have ep : e.p = mkRat ((e.p.num.toNat : Nat) : Int) e.p.den := by
      rw [show ((e.p.num.toNat : Nat) : Int) = e.p.num by omega]
      exact (Rat.mkRat_self e.p).symm
    rw [hz]
    conv => lhs; rw [ep]
    rw [Rat.mkRat_eq_div, Rat.mkRat_eq_div, Rat.mkRat_eq_div, Rat.natCast_mul, Rat.intCast_mul]
    have a1 := natR d0
    have a2 := natR hn
    have a3 := natR e.p.den_pos
    show ((z : Int) : Rat) / ((Dk m k : Nat) : Rat) / (((e.p.num.toNat : Nat) : Rat) / ((e.p.den : Nat) : Rat)) = ((z : Int) : Rat) * ((e.p.den : Nat) : Rat) / _
    generalize ((Dk m k : Nat) : Rat) = D at *
    generalize ((e.p.num.toNat : Nat) : Rat) = N at *
    generalize ((e.p.den : Nat) : Rat) = E at *
    generalize ((z : Int) : Rat) = y at *
    grind
  · rw [Int.natAbs_mul, Int.natAbs_natCast]
    rw [Nat.one_mul] at hc
    have hd := h.2.2.2.2.2
    have h1 : z.natAbs * e.p.den ≤ Dk m k * 5000 := Nat.mul_le_mul hc hd
    have h2 : Dk m k * 5000 * 1 ≤ Dk m k * 5000 * e.p.num.toNat := Nat.mul_le_mul_left _ hn
    calc z.natAbs * e.p.den ≤ Dk m k * 5000 := h1
      _ ≤ Dk m k * 5000 * e.p.num.toNat := by omega
      _ = 5000 * (Dk m k * e.p.num.toNat) := by rw [Nat.mul_comm (Dk m k) 5000, Nat.mul_assoc]
def Pev (l : List Ev) : Nat := prodN (l.map fun e => e.p.num.toNat)
theorem Pe_pos {l : List Ev} (h : ∀ e ∈ l, EvOk m e) : 0 < Pev l := prodN_pos fun x hx => by
  obtain ⟨e, he, rfl⟩ := List.mem_map.mp hx
  exact pn_pos (h e he).2.2.2.1
theorem Pe_dvd {l : List Ev} (h : e ∈ l) : e.p.num.toNat ∣ Pev l := prodN_dvd (List.mem_map.mpr ⟨e, h, rfl⟩)
theorem Pe_le {l : List Ev} {n : Nat} (h : ∀ e ∈ l, EvOk m e) (hn : l.length ≤ n) : Pev l ≤ 2 ^ (10 * n) := by
  refine prodN_le (fun x hx => ?_) (by rw [List.length_map]; exact hn)
  obtain ⟨e, he, rfl⟩ := List.mem_map.mp hx
  have := (h e he).2.2.2.2.1
  have e : (2 : Nat) ^ 10 = 1024 := by decide
  omega
theorem evo_all (W : Wf m) : ∀ e ∈ m.ev, EvOk m e := W.ev
theorem bd_imp (W : Wf m) (hk : k < 3) (h : EvOk m e) : Bd (imp m k e) := by
  refine (imp_sz W hk h (P := Pev [e]) (Pe_dvd (by simp)) (Pe_pos (m := m) (by simpa using h))).bd (a := 78 + 10) (v := 13) ?_ (by decide) (by decide)
  rw [Nat.pow_add]
  exact Nat.mul_le_mul (Dk_le W hk) (Pe_le (m := m) (n := 1) (by simpa using h) (by simp))
/-! ### terms -/
theorem range_len (n : Nat) {β : Type} (f : Nat → β) : ((List.range n).map f).length = n := by rw [List.length_map, List.length_range]
theorem direct_items (W : Wf m) (hk : k < 3) (hc : c < m.nc) : ∀ x ∈ (List.range m.na).map fun a => chance m k c a * est m c a, Sz (Dk m k * F40) 100 x := fun x hx => by
  obtain ⟨a, ha, rfl⟩ := List.mem_map.mp hx
  exact ((chance_sz W hk hc).mul (est_sz W hc (List.mem_range.mp ha))).mono (by decide)
theorem DF_le (W : Wf m) (hk : k < 3) : Dk m k * F40 ≤ 2 ^ 238 := by
  rw [show (2 : Nat) ^ 238 = 2 ^ 78 * 2 ^ 160 by rw [← Nat.pow_add]]
  exact Nat.mul_le_mul (Dk_le W hk) F40_le
theorem ps_direct (W : Wf m) (hk : k < 3) (hc : c < m.nc) : Ps ((List.range m.na).map fun a => chance m k c a * est m c a) :=
  ps_of (direct_items W hk hc) (Nat.mul_pos (Dk_pos W hk) F40_pos) (DF_le W hk) (v := 7) (by decide) (by rw [range_len]; have := W.na5; omega) (by decide)
theorem direct_sz (W : Wf m) (hk : k < 3) (hc : c < m.nc) : Sz (Dk m k * F40) 500 (direct m k c) := by
  refine (sz_sum (Nat.mul_pos (Dk_pos W hk) F40_pos) (direct_items W hk hc)).mono ?_
  rw [range_len]
  have := W.na5
  omega
theorem lim_sz (h : limit ≤ 100000) : Sz 100 1000 (lim limit) := sz_mk (by decide) h
theorem bd_lim (h : limit ≤ 100000) : Bd (lim limit) := (lim_sz h).bd (a := 7) (v := 10) (by decide) (by decide) (by decide)
theorem rest_sz (W : Wf m) (h : EvOk m e) : Sz F40 200 ((e.r : Rw) - est m e.c e.a) := by
  have h1 : Sz F40 100 ((e.r : Nat) : Rw) := (sz_nat h.2.2.1).up (Nat.one_dvd _) F40_pos
  exact (h1.sub (est_sz W h.1 h.2.1)).mono (by decide)
theorem bd_rest (W : Wf m) (h : EvOk m e) : Bd ((e.r : Rw) - est m e.c e.a) := (rest_sz W h).bd F40_le (v := 8) (by decide) (by decide)
/-- the terms' denominator -/
def Nk (m : M) (k P : Nat) : Nat := Dk m k * P * (F40 * 100)
theorem Nk_pos (W : Wf m) (hk : k < 3) {P : Nat} (h : 0 < P) : 0 < Nk m k P := Nat.mul_pos (Nat.mul_pos (Dk_pos W hk) h) (by decide)
theorem Nk_le (W : Wf m) (hk : k < 3) {P p : Nat} (h : P ≤ 2 ^ p) : Nk m k P ≤ 2 ^ (78 + p + 167) := by
  unfold Nk
  rw [Nat.pow_add, Nat.pow_add]
  exact Nat.mul_le_mul (Nat.mul_le_mul (Dk_le W hk) h) (by decide)
theorem DP_N {P : Nat} : Dk m k * P ∣ Nk m k P := Nat.dvd_mul_right _ _
theorem term_sz (W : Wf m) (hk : k < 3) (hl : limit ≤ 100000) (h : EvOk m e) {P : Nat} (hP : e.p.num.toNat ∣ P) (h0 : 0 < P) : Sz (Nk m k P) 1001000 (term m k kind limit e) := by
  have np := Nk_pos W hk h0
  have hi := imp_sz W hk h hP h0
  have hr : Sz 1 100 ((e.r : Nat) : Rw) := sz_nat h.2.2.1
  have hd : Sz (Nk m k P) 500 (direct m k e.c) := (direct_sz W hk h.1).up (by
    unfold Nk
    exact Nat.mul_dvd_mul (Nat.dvd_mul_right _ _) (Nat.dvd_mul_right _ _)) np
  unfold term
  split
  · exact hd.mono (by decide)
  · split
    · exact ((hi.mul hr).up (by rw [Nat.mul_one]; exact DP_N) np).mono (by decide)
    · split
      · have hc : Sz (Dk m k * P * 100) 5000 (clip (imp m k e) (lim limit)) := by
          have q : 0 < Dk m k * P * 100 := Nat.mul_pos hi.1 (by decide)
          unfold clip
          split
          · exact hi.up (Nat.dvd_mul_right _ _) q
          · exact ((lim_sz hl).up (Nat.dvd_mul_left _ _) q).mono (by decide)
        refine ((hc.mul hr).up ?_ np).mono (by decide)
        rw [Nat.mul_one]
        unfold Nk
        exact Nat.mul_dvd_mul_left _ (Nat.dvd_mul_left _ _)
      · have h2 : Sz (Nk m k P) 1000000 (imp m k e * ((e.r : Rw) - est m e.c e.a)) := by
          refine (hi.mul (rest_sz W h)).up ?_ np
          unfold Nk
          exact Nat.mul_dvd_mul_left _ (Nat.dvd_mul_right _ _)
        exact (hd.add h2).mono (by decide)
theorem bd_impr (W : Wf m) (hk : k < 3) (h : EvOk m e) : Bd (imp m k e * ((e.r : Rw) - est m e.c e.a)) := by
  have hP := Pe_le (m := m) (l := [e]) (n := 1) (by simpa using h) (by simp)
  refine ((imp_sz W hk h (P := Pev [e]) (Pe_dvd (by simp)) (Pe_pos (m := m) (by simpa using h))).mul (rest_sz W h)).bd (a := 78 + 10 + 160) (v := 20) ?_ (by decide) (by decide)
  rw [Nat.pow_add, Nat.pow_add]
  exact Nat.mul_le_mul (Nat.mul_le_mul (Dk_le W hk) hP) F40_le
theorem bd_term (W : Wf m) (hk : k < 3) (hl : limit ≤ 100000) (h : EvOk m e) : Bd (term m k kind limit e) :=
  (term_sz W hk hl h (P := Pev [e]) (Pe_dvd (by simp)) (Pe_pos (m := m) (by simpa using h))).bd (Nk_le W hk (Pe_le (m := m) (n := 1) (by simpa using h) (by simp))) (v := 20) (by decide) (by decide)
/-! ### lists -/
theorem mean_sz {D V : Nat} {l : List Rw} (hD : 0 < D) (h : ∀ x ∈ l, Sz D V x) (hl : 0 < l.length) : Sz (D * l.length) V (meanR l) := (sz_sum hD h).div hl
theorem vs_of {D V a v : Nat} {l : List Rw} (hD : 0 < D) (h : ∀ x ∈ l, Sz D V x) (ha : D ≤ 2 ^ a) (hv : V ≤ 2 ^ v) (h2 : 2 ≤ l.length) (hl : l.length ≤ 40) (hs : 2 * v + 2 * a < 4200) : Vs l := by
  have hp : 0 < l.length := by omega
  have hDl : 0 < D * l.length := Nat.mul_pos hD hp
  have l6 : l.length ≤ 2 ^ 6 := Nat.le_trans hl (by decide)
  have hm := mean_sz hD h hp
  have haD : D * l.length ≤ 2 ^ (a + 6) := by
    rw [Nat.pow_add]
    exact Nat.mul_le_mul ha l6
  have dev : ∀ x ∈ l, Sz (D * l.length) (V + V) (x - meanR l) := fun x hx => ((h x hx).up (Nat.dvd_mul_right _ _) hDl).sub hm
  have hvv : V + V ≤ 2 ^ (v + 1) := by
    rw [Nat.pow_succ]
    omega
  have sq : ∀ x ∈ l.map (fun x => (x - meanR l) * (x - meanR l)), Sz (D * l.length * (D * l.length)) ((V + V) * (V + V)) x := fun x hx => by
    obtain ⟨y, hy, rfl⟩ := List.mem_map.mp hx
    exact (dev y hy).mul (dev y hy)
  have hsq : D * l.length * (D * l.length) ≤ 2 ^ (a + 6 + (a + 6)) := by
    rw [Nat.pow_add]
    exact Nat.mul_le_mul haD haD
  have hvq : (V + V) * (V + V) ≤ 2 ^ (v + 1 + (v + 1)) := by
    rw [Nat.pow_add]
    exact Nat.mul_le_mul hvv hvv
  have hn : 0 < (l.length - 1) * l.length := Nat.mul_pos (by omega) hp
  refine ⟨ps_of h hD ha hv (by omega) (by omega), hm.bd haD hv (by omega), fun x hx => (dev x hx).bd haD hvv (by omega), ps_of sq (Nat.mul_pos hDl hDl) hsq hvq (by rw [List.length_map]; omega) (by omega), ?_⟩
  have s := sz_sum (Nat.mul_pos hDl hDl) sq
  rw [List.length_map] at s
  have s2 : Sz (D * l.length * (D * l.length)) ((l.length - 1) * l.length * ((V + V) * (V + V))) ((l.map fun x => (x - meanR l) * (x - meanR l)).sum) := s.mono (Nat.mul_le_mul_right _ (Nat.le_mul_of_pos_left _ (by omega)))
  refine (s2.div hn).bd (a := a + 6 + (a + 6) + 12) ?_ hvq (by omega)
  rw [Nat.pow_add 2 (a + 6 + (a + 6)) 12]
  refine Nat.mul_le_mul hsq ?_
  have : (l.length - 1) * l.length ≤ 64 * 64 := Nat.mul_le_mul (by omega) (by omega)
  exact Nat.le_trans this (by decide)
theorem pe40 (W : Wf m) : Pev m.ev ≤ 2 ^ 400 := Pe_le (evo_all W) W.ev40
theorem terms_sz (W : Wf m) (hk : k < 3) (hl : limit ≤ 100000) : ∀ x ∈ terms m k kind limit, Sz (Nk m k (Pev m.ev)) 1001000 x := fun x hx => by
  obtain ⟨e, he, rfl⟩ := List.mem_map.mp hx
  exact term_sz W hk hl (evo_all W e he) (Pe_dvd he) (Pe_pos (evo_all W))
theorem terms_n : (terms m k kind limit).length = m.ev.length := List.length_map _
theorem ps_terms (W : Wf m) (hk : k < 3) (hl : limit ≤ 100000) : Ps (terms m k kind limit) :=
  ps_of (terms_sz W hk hl) (Nk_pos W hk (Pe_pos (evo_all W))) (Nk_le W hk (pe40 W)) (v := 20) (by decide) (by rw [terms_n]; have := W.ev40; omega) (by decide)
theorem vs_terms (W : Wf m) (hk : k < 3) (hl : limit ≤ 100000) (h2 : 2 ≤ m.ev.length) : Vs (terms m k kind limit) :=
  vs_of (Nk_pos W hk (Pe_pos (evo_all W))) (terms_sz W hk hl) (Nk_le W hk (pe40 W)) (v := 20) (by decide) (by rw [terms_n]; exact h2) (by rw [terms_n]; exact W.ev40) (by decide)
theorem vs_diffs (W : Wf m) {b : Nat} (ha : a < 3) (hb : b < 3) (hl : limit ≤ 100000) (h2 : 2 ≤ m.ev.length) : Vs (diffs (terms m a kind limit) (terms m b kind limit)) := by
  have pp := Pe_pos (evo_all W)
  have q0 : 0 < Dk m a * Nk m b (Pev m.ev) := Nat.mul_pos (Dk_pos W ha) (Nk_pos W hb pp)
  have d1 : Nk m a (Pev m.ev) ∣ Dk m a * Nk m b (Pev m.ev) := by
    unfold Nk
    rw [Nat.mul_assoc (Dk m a), Nat.mul_assoc (Dk m b)]
    exact Nat.mul_dvd_mul_left _ (Nat.dvd_mul_left _ _)
  have dl : (diffs (terms m a kind limit) (terms m b kind limit)).length = m.ev.length := by
    unfold diffs
    rw [List.length_map, List.length_zip, terms_n, terms_n, Nat.min_self]
  refine vs_of q0 (V := 1001000 + 1001000) (fun x hx => ?_) (a := 78 + (78 + 400 + 167)) ?_ (v := 21) (by decide) (by rw [dl]; exact h2) (by rw [dl]; exact W.ev40) (by decide)
  · unfold diffs at hx
    obtain ⟨p, hp, rfl⟩ := List.mem_map.mp hx
    have hm := List.of_mem_zip hp
    exact ((terms_sz W ha hl _ hm.1).up d1 q0).sub ((terms_sz W hb hl _ hm.2).up (Nat.dvd_mul_left _ _) q0)
  · rw [Nat.pow_add 2 78]
    exact Nat.mul_le_mul (Dk_le W ha) (Nk_le W hb (pe40 W))
theorem ps_atCtx (W : Wf m) (hk : k < 3) (hl : limit ≤ 100000) : Ps (atCtx m k kind limit c) := by
  refine ps_of (fun x hx => ?_) (Nk_pos W hk (Pe_pos (evo_all W))) (Nk_le W hk (pe40 W)) (v := 20) (V := 1001000) (by decide) ?_ (by decide)
  · unfold atCtx at hx
    obtain ⟨e, he, rfl⟩ := List.mem_map.mp hx
    have he := (List.mem_filter.mp he).1
    exact term_sz W hk hl (evo_all W e he) (Pe_dvd he) (Pe_pos (evo_all W))
  · unfold atCtx
    rw [List.length_map]
    have := List.length_filter_le (fun e : Ev => e.c == c) m.ev
    have := W.ev40
    omega
theorem DP_le (W : Wf m) (hk : k < 3) : Dk m k * Pev m.ev ≤ 2 ^ 478 := by
  rw [show (2 : Nat) ^ 478 = 2 ^ 78 * 2 ^ 400 by rw [← Nat.pow_add]]
  exact Nat.mul_le_mul (Dk_le W hk) (pe40 W)
theorem DP_pos (W : Wf m) (hk : k < 3) : 0 < Dk m k * Pev m.ev := Nat.mul_pos (Dk_pos W hk) (Pe_pos (evo_all W))
theorem imps_sz (W : Wf m) (hk : k < 3) : ∀ x ∈ imps m k, Sz (Dk m k * Pev m.ev) 5000 x := fun x hx => by
  obtain ⟨e, he, rfl⟩ := List.mem_map.mp hx
  exact imp_sz W hk (evo_all W e he) (Pe_dvd he) (Pe_pos (evo_all W))
theorem ps_imps (W : Wf m) (hk : k < 3) : Ps (imps m k) :=
  ps_of (imps_sz W hk) (DP_pos W hk) (DP_le W hk) (v := 13) (by decide) (by unfold imps; rw [List.length_map]; have := W.ev40; omega) (by decide)
theorem ps_rewd (W : Wf m) (hk : k < 3) : Ps (rewd m k) := by
  refine ps_of (V := 500000) (fun x hx => ?_) (DP_pos W hk) (DP_le W hk) (v := 19) (by decide) (by unfold rewd; rw [List.length_map]; have := W.ev40; omega) (by decide)
  obtain ⟨e, he, rfl⟩ := List.mem_map.mp hx
  have h := evo_all W e he
  have := (imp_sz W hk h (Pe_dvd he) (Pe_pos (evo_all W))).mul (sz_nat (V := 100) h.2.2.1)
  rw [Nat.mul_one] at this
  exact this
theorem ps_sqs (W : Wf m) (hk : k < 3) : Ps (sqs (imps m k)) := by
  refine ps_of (D := Dk m k * Pev m.ev * (Dk m k * Pev m.ev)) (V := 5000 * 5000) (fun x hx => ?_) (Nat.mul_pos (DP_pos W hk) (DP_pos W hk)) (a := 478 + 478) ?_ (v := 25) (by decide) (by unfold sqs imps; rw [List.length_map, List.length_map]; have := W.ev40; omega) (by decide)
  · obtain ⟨y, hy, rfl⟩ := List.mem_map.mp hx
    exact (imps_sz W hk y hy).mul (imps_sz W hk y hy)
  · rw [Nat.pow_add]
    exact Nat.mul_le_mul (DP_le W hk) (DP_le W hk)
theorem bd_sq (W : Wf m) (hk : k < 3) : Bd ((imps m k).sum * (imps m k).sum) := by
  have s : Sz (Dk m k * Pev m.ev) 200000 (imps m k).sum := (sz_sum (DP_pos W hk) (imps_sz W hk)).mono (by
    unfold imps
    rw [List.length_map]
    have := W.ev40
    omega)
  refine (s.mul s).bd (a := 478 + 478) ?_ (v := 36) (by decide) (by decide)
  rw [Nat.pow_add]
  exact Nat.mul_le_mul (DP_le W hk) (DP_le W hk)
theorem ps_rews (W : Wf m) (p : Ev → Bool) : Ps ((m.ev.filter p).map fun e => (e.r : Rat)) := by
  refine ps_of (D := 1) (V := 100) (fun x hx => ?_) (by decide) (a := 0) (by decide) (v := 7) (by decide) ?_ (by decide)
  · obtain ⟨e, he, rfl⟩ := List.mem_map.mp hx
    exact sz_nat (evo_all W e (List.mem_filter.mp he).1).2.2.1
  · rw [List.length_map]
    have := List.length_filter_le p m.ev
    have := W.ev40
    omega
theorem ps_here (W : Wf m) : Ps (here m c a) := ps_rews W _
theorem ps_byAct (W : Wf m) : Ps (byAct m a) := ps_rews W _
theorem ps_played (W : Wf m) : Ps (played m k) := ps_rews W _
/-! ### exact expectations -/
theorem tw_pos (W : Wf m) : 0 < m.tw.sum := by
  have h1 := W.tw.1
  have h2 := W.tw.2
  have n1 := W.nc1
  cases ht : m.tw with
  | nil =>
    rw [ht] at h1
    simp at h1
    omega
  | cons x r =>
    have := (h2 x (by rw [ht]; exact List.mem_cons_self)).1
    rw [List.sum_cons]
    omega
theorem tw_le (W : Wf m) : m.tw.sum ≤ 2 ^ 13 := by
  have := sum_le (fun x hx => (W.tw.2 x hx).2) (n := 6) (by rw [W.tw.1]; exact W.nc6)
  exact Nat.le_trans this (by decide)
theorem ctxP_sz (W : Wf m) : Sz m.tw.sum 1 (ctxP m c) := sz_mk (tw_pos W) (by rw [Nat.one_mul]; exact getD_sum _ _)
theorem bd_ctxP (W : Wf m) (hc : c < m.nc) : Bd (ctxP m c) := (ctxP_sz W).bd (tw_le W) (v := 0) (by decide) (by decide)
theorem rw_le (W : Wf m) : rew m c a ≤ 100 := by
  unfold rew
  rw [List.getD_eq_getElem?_getD]
  cases q : (m.tr.getD c [])[a]? with
  | none => exact Nat.zero_le _
  | some x =>
    rw [List.getD_eq_getElem?_getD] at q
    cases q2 : m.tr[c]? with
    | none =>
      rw [q2] at q
      cases q
    | some r =>
      rw [q2] at q
      exact (W.tr.2 r (List.mem_of_getElem? q2)).2 x (List.mem_of_getElem? q)
theorem exp_items (W : Wf m) (hk : k < 3) (hc : c < m.nc) : ∀ x ∈ (List.range m.na).map fun a => chance m k c a * ((rew m c a : Nat) : Rw), Sz (Dk m k) 100 x := fun x hx => by
  obtain ⟨a, ha, rfl⟩ := List.mem_map.mp hx
  have := (chance_sz (a := a) W hk hc).mul (sz_nat (V := 100) (rw_le W (c := c) (a := a)))
  rw [Nat.mul_one] at this
  exact this
theorem ps_expRew (W : Wf m) (hk : k < 3) (hc : c < m.nc) : Ps ((List.range m.na).map fun a => chance m k c a * ((rew m c a : Nat) : Rw)) :=
  ps_of (exp_items W hk hc) (Dk_pos W hk) (Dk_le W hk) (v := 7) (by decide) (by rw [range_len]; have := W.na5; omega) (by decide)
theorem ps_trueV (W : Wf m) (hk : k < 3) : Ps ((List.range m.nc).map fun c => ctxP m c * expRew m k c) := by
  refine ps_of (D := m.tw.sum * Dk m k) (V := 500) (fun x hx => ?_) (Nat.mul_pos (tw_pos W) (Dk_pos W hk)) (a := 13 + 78) ?_ (v := 9) (by decide) (by rw [range_len]; have := W.nc6; omega) (by decide)
  · obtain ⟨c, hc, rfl⟩ := List.mem_map.mp hx
    have s : Sz (Dk m k) 500 (expRew m k c) := (sz_sum (Dk_pos W hk) (exp_items W hk (List.mem_range.mp hc))).mono (by
      rw [range_len]
      have := W.na5
      omega)
    exact ((ctxP_sz W).mul s).mono (by decide)
  · rw [Nat.pow_add]
    exact Nat.mul_le_mul (tw_le W) (Dk_le W hk)
theorem poss_mem {d : Rat × Ev} (h : d ∈ possible m g) : d.2.c < m.nc ∧ d.2.a < m.na ∧ 0 < chance m g d.2.c d.2.a ∧ d = (ctxP m d.2.c * chance m g d.2.c d.2.a, ⟨d.2.c, d.2.a, rew m d.2.c d.2.a, chance m g d.2.c d.2.a⟩) := by
  unfold possible at h
  obtain ⟨c, hc, h⟩ := List.mem_flatMap.mp h
  obtain ⟨a, ha, h⟩ := List.mem_filterMap.mp h
  unfold possAt at h
  split at h
  · rename_i hp
    cases h
    exact ⟨List.mem_range.mp hc, List.mem_range.mp ha, hp, rfl⟩
  · cases h
theorem chance_ev (W : Wf m) (hk : k < 3) (hc : c < m.nc) : (chance m k c a).num ≤ 1000 ∧ (chance m k c a).den ≤ 5000 := by
  have h := wts_ok W hk hc
  have hS := wsum_le W hk hc
  have hw : (wts m k c).getD a 0 ≤ 1000 := by
    rw [List.getD_eq_getElem?_getD]
    cases q : (wts m k c)[a]? with
    | none => exact Nat.zero_le _
    | some x => exact h.2.1 x (List.mem_of_getElem? q)
  unfold chance
  rw [Rat.num_mkRat, Rat.den_mkRat, if_neg (by omega), if_neg (by omega)]
  refine ⟨?_, Nat.le_trans (Nat.div_le_self _ _) hS⟩
  have h1 : (((wts m k c).getD a 0 : Nat) : Int) / (((wts m k c).sum.gcd (((wts m k c).getD a 0 : Nat) : Int).natAbs : Nat) : Int) ≤ (((wts m k c).getD a 0 : Nat) : Int) := Int.ediv_le_self _ (Int.natCast_nonneg _)
  omega
theorem poss_ev (W : Wf m) (hg : g < 3) {d : Rat × Ev} (h : d ∈ possible m g) : EvOk m d.2 := by
  obtain ⟨h1, h2, h3, h4⟩ := poss_mem h
  have e : d.2 = ⟨d.2.c, d.2.a, rew m d.2.c d.2.a, chance m g d.2.c d.2.a⟩ := congrArg Prod.snd h4
  have ep : d.2.p = chance m g d.2.c d.2.a := congrArg Ev.p e
  have er : d.2.r = rew m d.2.c d.2.a := congrArg Ev.r e
  have hc := chance_ev (a := d.2.a) W hg h1
  exact ⟨h1, h2, by rw [er]; exact rw_le W, by rw [ep]; exact h3, by rw [ep]; exact hc.1, by rw [ep]; exact hc.2⟩
theorem poss_d (W : Wf m) (hg : g < 3) {d : Rat × Ev} (h : d ∈ possible m g) : Sz (m.tw.sum * Dk m g) 1 d.1 := by
  obtain ⟨h1, h2, h3, h4⟩ := poss_mem h
  have e : d.1 = ctxP m d.2.c * chance m g d.2.c d.2.a := congrArg Prod.fst h4
  rw [e]
  exact ((ctxP_sz W).mul (chance_sz W hg h1)).mono (by decide)
theorem TD_le (W : Wf m) (hg : g < 3) : m.tw.sum * Dk m g ≤ 2 ^ 91 := by
  rw [show (2 : Nat) ^ 91 = 2 ^ 13 * 2 ^ 78 by rw [← Nat.pow_add]]
  exact Nat.mul_le_mul (tw_le W) (Dk_le W hg)
theorem TD_pos (W : Wf m) (hg : g < 3) : 0 < m.tw.sum * Dk m g := Nat.mul_pos (tw_pos W) (Dk_pos W hg)
theorem poss_ok (W : Wf m) (hk : k < 3) {d : Rw × Ev} (h : d ∈ possible m k) : EvOk m d.2 ∧ Bd d.1 :=
  ⟨poss_ev W hk h, (poss_d W hk h).bd (TD_le W hk) (v := 0) (by decide) (by decide)⟩
theorem flat_len {α β : Type} {n : Nat} (f : α → List β) : ∀ (l : List α), (∀ x ∈ l, (f x).length ≤ n) → (l.flatMap f).length ≤ l.length * n
  | [], _ => Nat.zero_le _
  | x :: r, h => by
    rw [List.flatMap_cons, List.length_append, List.length_cons, Nat.succ_mul, Nat.add_comm]
    exact Nat.add_le_add (flat_len f r fun y hy => h y (List.mem_cons_of_mem _ hy)) (h x List.mem_cons_self)
theorem poss_len (W : Wf m) : (possible m k).length ≤ 30 := by
  unfold possible
  have h := flat_len (n := m.na) (fun c => (List.range m.na).filterMap (possAt m k c)) (List.range m.nc) fun c _ => by
    have := List.length_filterMap_le (possAt m k c) (List.range m.na)
    rw [List.length_range] at this
    exact this
  rw [List.length_range] at h
  exact Nat.le_trans h (show _ ≤ 6 * 5 from Nat.mul_le_mul W.nc6 W.na5)
def Ppv (m : M) (g : Nat) : Nat := Pev ((possible m g).map (·.2))
theorem Pp_ok (W : Wf m) (hg : g < 3) : ∀ e ∈ (possible m g).map (·.2), EvOk m e := fun e he => by
  obtain ⟨d, hd, rfl⟩ := List.mem_map.mp he
  exact poss_ev W hg hd
theorem Pp_pos (W : Wf m) (hg : g < 3) : 0 < Ppv m g := Pe_pos (Pp_ok W hg)
theorem Pp_le (W : Wf m) (hg : g < 3) : Ppv m g ≤ 2 ^ 300 := Pe_le (Pp_ok W hg) (by rw [List.length_map]; exact poss_len W)
theorem pterm_sz (W : Wf m) (hg : g < 3) (hk : k < 3) (hl : limit ≤ 100000) {d : Rat × Ev} (h : d ∈ possible m g) : Sz (Nk m k (Ppv m g)) 1001000 (term m k kind limit d.2) :=
  term_sz W hk hl (poss_ev W hg h) (Pe_dvd (List.mem_map.mpr ⟨d, h, rfl⟩)) (Pp_pos W hg)
/-- the expectation's denominator -/
def Mk (m : M) (g k : Nat) : Nat := m.tw.sum * Dk m g * Nk m k (Ppv m g)
theorem Mk_pos (W : Wf m) (hg : g < 3) (hk : k < 3) : 0 < Mk m g k := Nat.mul_pos (TD_pos W hg) (Nk_pos W hk (Pp_pos W hg))
theorem Mk_le (W : Wf m) (hg : g < 3) (hk : k < 3) : Mk m g k ≤ 2 ^ 636 := by
  rw [show (2 : Nat) ^ 636 = 2 ^ 91 * 2 ^ (78 + 300 + 167) by rw [← Nat.pow_add]]
  exact Nat.mul_le_mul (TD_le W hg) (Nk_le W hk (Pp_le W hg))
theorem mid_items (W : Wf m) (hg : g < 3) (hk : k < 3) (hl : limit ≤ 100000) : ∀ x ∈ (possible m g).map fun d => d.1 * term m k kind limit d.2, Sz (Mk m g k) 1001000 x := fun x hx => by
  obtain ⟨d, hd, rfl⟩ := List.mem_map.mp hx
  exact ((poss_d W hg hd).mul (pterm_sz W hg hk hl hd)).mono (by decide)
theorem ps_mid (W : Wf m) {g : Nat} (hg : g < 3) (hk : k < 3) (hl : limit ≤ 100000) : Ps ((possible m g).map fun d => d.1 * term m k kind limit d.2) :=
  ps_of (mid_items W hg hk hl) (Mk_pos W hg hk) (Mk_le W hg hk) (v := 20) (by decide) (by rw [List.length_map]; have := poss_len (k := g) W; omega) (by decide)
theorem mid_sz (W : Wf m) (hg : g < 3) (hk : k < 3) (hl : limit ≤ 100000) : Sz (Mk m g k) 31000000 (momMid m g k kind limit) := by
  refine (sz_sum (Mk_pos W hg hk) (mid_items W hg hk hl)).mono ?_
  rw [List.length_map]
  have := poss_len (k := g) W
  omega
theorem dev_sz (W : Wf m) (hg : g < 3) (hk : k < 3) (hl : limit ≤ 100000) {d : Rw × Ev} (h : d ∈ possible m g) : Sz (Mk m g k) 33554432 (term m k kind limit d.2 - momMid m g k kind limit) :=
  (((pterm_sz W hg hk hl h).up (Nat.dvd_mul_left _ _) (Mk_pos W hg hk)).sub (mid_sz W hg hk hl)).mono (by decide)
theorem MM_le (W : Wf m) (hg : g < 3) (hk : k < 3) : Mk m g k * Mk m g k ≤ 2 ^ (636 + 636) := by
  rw [Nat.pow_add]
  exact Nat.mul_le_mul (Mk_le W hg hk) (Mk_le W hg hk)
theorem bd_dev (W : Wf m) {g : Nat} (hg : g < 3) (hk : k < 3) (hl : limit ≤ 100000) {d : Rw × Ev} (h : d ∈ possible m g) : Bd (term m k kind limit d.2 - momMid m g k kind limit) ∧ Bd ((term m k kind limit d.2 - momMid m g k kind limit) * (term m k kind limit d.2 - momMid m g k kind limit)) :=
  ⟨(dev_sz W hg hk hl h).bd (Mk_le W hg hk) (v := 25) (by decide) (by decide), ((dev_sz W hg hk hl h).mul (dev_sz W hg hk hl h)).bd (MM_le W hg hk) (v := 50) (by decide) (by decide)⟩
theorem ps_spread (W : Wf m) {g : Nat} (hg : g < 3) (hk : k < 3) (hl : limit ≤ 100000) : Ps ((possible m g).map fun d => d.1 * ((term m k kind limit d.2 - momMid m g k kind limit) * (term m k kind limit d.2 - momMid m g k kind limit))) := by
  refine ps_of (D := m.tw.sum * Dk m g * (Mk m g k * Mk m g k)) (V := 1 * (33554432 * 33554432)) (fun x hx => ?_) (Nat.mul_pos (TD_pos W hg) (Nat.mul_pos (Mk_pos W hg hk) (Mk_pos W hg hk))) (a := 91 + (636 + 636)) ?_ (v := 50) (by decide) (by rw [List.length_map]; have := poss_len (k := g) W; omega) (by decide)
  · obtain ⟨d, hd, rfl⟩ := List.mem_map.mp hx
    exact (poss_d W hg hd).mul ((dev_sz W hg hk hl hd).mul (dev_sz W hg hk hl hd))
  · rw [Nat.pow_add 2 91]
    exact Nat.mul_le_mul (TD_le W hg) (MM_le W hg hk)
/-! ### resampling -/
theorem lcm_fold_dvd {D : Nat} : ∀ (l : List Rat) (d : Nat), 0 < d → d ∣ D → (∀ x ∈ l, x.den ∣ D) → l.foldl (fun d x => d / Nat.gcd d x.den * x.den) d ∣ D := by
  intro l
  induction l with
  | nil => exact fun d _ h _ => h
  | cons x r ih =>
    intro d h0 hd h
    have hx := h x List.mem_cons_self
    have e : d / Nat.gcd d x.den * x.den = Nat.lcm d x.den := by
      unfold Nat.lcm
      rw [Nat.mul_comm, ← Nat.mul_div_assoc _ (Nat.gcd_dvd_left d x.den), Nat.mul_comm]
    rw [List.foldl_cons, e]
    exact ih _ (Nat.lcm_pos h0 x.den_pos) (Nat.lcm_dvd hd hx) fun y hy => h y (List.mem_cons_of_mem _ hy)
theorem lcm_fold : ∀ (l : List Rat) (d : Nat), d ∣ l.foldl (fun d x => d / Nat.gcd d x.den * x.den) d ∧ (∀ x ∈ l, x.den ∣ l.foldl (fun d x => d / Nat.gcd d x.den * x.den) d) ∧ (0 < d → 0 < l.foldl (fun d x => d / Nat.gcd d x.den * x.den) d) := by
  intro l
  induction l with
  | nil => exact fun d => ⟨Nat.dvd_refl _, (fun x h => by cases h), fun h => h⟩
  | cons x r ih =>
    intro d
    rw [List.foldl_cons]
    obtain ⟨h1, h2, h3⟩ := ih (d / Nat.gcd d x.den * x.den)
    have hb : x.den ∣ d / Nat.gcd d x.den * x.den := Nat.dvd_mul_left _ _
    have hd : d ∣ d / Nat.gcd d x.den * x.den := by
      obtain ⟨b', hb'⟩ := Nat.gcd_dvd_right d x.den
      conv => rhs; arg 2; rw [hb']
      rw [← Nat.mul_assoc, Nat.div_mul_cancel (Nat.gcd_dvd_left d x.den)]
      exact Nat.dvd_mul_right _ _
    refine ⟨Nat.dvd_trans hd h1, fun y hy => ?_, fun hp => h3 ?_⟩
    · rcases List.mem_cons.mp hy with rfl | hy
      · exact Nat.dvd_trans hb h1
      · exact h2 y hy
    · refine Nat.mul_pos ?_ x.den_pos
      exact Nat.div_pos (Nat.le_of_dvd hp (Nat.gcd_dvd_left d x.den)) (Nat.gcd_pos_of_pos_left _ hp)
theorem lcm_dvd {l : List Rat} {x : Rat} (h : x ∈ l) : x.den ∣ lcmL l := (lcm_fold l 1).2.1 x h
theorem bs_terms (W : Wf m) (hk : k < 3) (hl : limit ≤ 100000) : Bs (terms m k kind limit) := by
  have pp := Nk_pos W hk (Pe_pos (evo_all W))
  have hN := Nk_le W hk (pe40 W)
  have hd : ∀ x ∈ terms m k kind limit, x.den ∣ Nk m k (Pev m.ev) := fun x hx => (terms_sz W hk hl x hx).den
  have hL : ∀ i, lcmL ((terms m k kind limit).take i) ≤ Nk m k (Pev m.ev) := fun i =>
    Nat.le_of_dvd pp (lcm_fold_dvd _ 1 (by decide) (Nat.one_dvd _) fun x hx => hd x (List.mem_of_mem_take hx))
  have h40 : (terms m k kind limit).length ≤ 40 := by
    rw [terms_n]
    exact W.ev40
  have p1 : (2 : Nat) ^ (78 + 400 + 167) < 2 ^ 8000 := Nat.pow_lt_pow_right (by decide) (by decide)
  have p2 : (2 : Nat) ^ (78 + 400 + 167 + 6) < 2 ^ 9000 := Nat.pow_lt_pow_right (by decide) (by decide)
  refine ⟨(ps_terms W hk hl).1, fun i => log2_lt (Nat.lt_of_le_of_lt (Nat.le_trans (hL i) hN) p1) (by decide), fun x hx => lcm_dvd hx, log2_lt (Nat.lt_of_le_of_lt ?_ p2) (by decide), h40⟩
  have h := hL (terms m k kind limit).length
  rw [List.take_length] at h
  rw [Nat.pow_add 2 (78 + 400 + 167)]
  exact Nat.mul_le_mul (Nat.le_trans h hN) (Nat.le_trans h40 (by decide))
/-! ### ranked lists -/
def F12 : Nat := prodN ((List.range 12).map (· + 1))
theorem F12_pos : 0 < F12 := by decide
theorem F12_le : F12 ≤ 2 ^ 29 := by decide
theorem dvd_F12 {i : Nat} (h : i < 12) : i + 1 ∣ F12 := prodN_dvd (List.mem_map.mpr ⟨i, List.mem_range.mpr h, rfl⟩)
theorem ps_disc {l : List Nat} (h : l.length ≤ 12) (h2 : ∀ x ∈ l, x ≤ 100) : Ps ((List.range l.length).map fun i => mkRat ((l.getD i 0 : Nat) : Int) (i + 1)) := by
  refine ps_of (V := 100) (fun x hx => ?_) F12_pos F12_le (v := 7) (by decide) (by rw [range_len]; omega) (by decide)
  obtain ⟨i, hi, rfl⟩ := List.mem_map.mp hx
  have hi := List.mem_range.mp hi
  refine (sz_mk (V := 100) (by omega) ?_).up (dvd_F12 (by omega)) F12_pos
  have : l.getD i 0 ≤ 100 := by
    rw [List.getD_eq_getElem?_getD, List.getElem?_eq_getElem hi]
    exact h2 _ (List.getElem_mem hi)
  omega
theorem ps_prec {l : List Nat} (h : l.length ≤ 12) (h2 : ∀ x ∈ l, x ≤ 1) : Ps ((hitsAt l).map fun i => precAt l (i + 1)) := by
  have hl : (hitsAt l).length ≤ l.length := by
    unfold hitsAt
    have := List.length_filter_le (fun i => l.getD i 0 == 1) (List.range l.length)
    rw [List.length_range] at this
    exact this
  refine ps_of (V := 12) (fun x hx => ?_) F12_pos F12_le (v := 4) (by decide) (by rw [List.length_map]; omega) (by decide)
  obtain ⟨i, hi, rfl⟩ := List.mem_map.mp hx
  have hi : i < l.length := List.mem_range.mp (List.mem_filter.mp hi).1
  refine (sz_mk (V := 12) (by omega) ?_).up (dvd_F12 (by omega)) F12_pos
  have := sum_le (l := l.take (i + 1)) (V := 1) (n := 12) (fun x hx => h2 x (List.mem_of_mem_take hx)) (by rw [List.length_take]; omega)
  omega
theorem imps_nonneg (W : Wf m) (hk : k < 3) : 0 ≤ (imps m k).sum := sum_nonneg fun x hx => by
  obtain ⟨e, he, rfl⟩ := List.mem_map.mp hx
  exact imp_nonneg (evo_all W e he).2.2.2.1
theorem sqs_nonneg (l : List Rw) : 0 ≤ (sqs l).sum := sum_nonneg fun x hx => by
  obtain ⟨y, _, rfl⟩ := List.mem_map.mp hx
  exact sq_nonneg y
theorem mem_le_sum {l : List Rat} (h : ∀ x ∈ l, 0 ≤ x) {y : Rat} (hy : y ∈ l) : y ≤ l.sum := by
  induction l with
  | nil => cases hy
  | cons x r ih =>
    rw [List.sum_cons]
    have hr := sum_nonneg fun z hz => h z (List.mem_cons_of_mem _ hz)
    have hx := h x List.mem_cons_self
    rcases List.mem_cons.mp hy with rfl | hy
    · grind
    · have := ih (fun z hz => h z (List.mem_cons_of_mem _ hz)) hy
      grind
theorem disc_pos_of {l : List Nat} (h : l.sum ≠ 0) : 0 < disc l := by
  have : ∃ x ∈ l, 0 < x := by
    refine Classical.byContradiction fun z => h ?_
    clear h
    induction l with
    | nil => rfl
    | cons x r ih =>
      have hx : x = 0 := Nat.eq_zero_of_not_pos fun hp => z ⟨x, List.mem_cons_self, hp⟩
      rw [List.sum_cons, hx, ih fun ⟨y, hy, hp⟩ => z ⟨y, List.mem_cons_of_mem _ hy, hp⟩]
  obtain ⟨x, hx, hp⟩ := this
  obtain ⟨i, hi⟩ := List.getElem?_of_mem hx
  have hlt := (List.getElem?_eq_some_iff.mp hi).1
  have hm : mkRat ((x : Nat) : Int) (i + 1) ∈ (List.range l.length).map fun i => mkRat ((l.getD i 0 : Nat) : Int) (i + 1) :=
    List.mem_map.mpr ⟨i, List.mem_range.mpr hlt, by rw [List.getD_eq_getElem?_getD, hi, Option.getD_some]⟩
  have h1 := mem_le_sum (fun y hy => by
    obtain ⟨j, _, rfl⟩ := List.mem_map.mp hy
    exact mk_nonneg _ _) hm
  have h2 : 0 < mkRat ((x : Nat) : Int) (i + 1) := mk_pos hp (by omega)
  unfold disc
  grind
theorem sort_perm (l : List Nat) : (sortDown l).Perm l := List.mergeSort_perm _ _
theorem sort_sum (l : List Nat) : (sortDown l).sum = l.sum := (sort_perm l).sum_nat
theorem disc_pos {l : List Nat} (h : 0 < l.sum) : 0 < disc (sortDown l) := disc_pos_of (by rw [sort_sum]; omega)
/-! ### the study's numbers stay well formed -/
theorem ev_add (W : Wf m) {n d r : Nat} (hc : c < m.nc) (ha : a < m.na) (hr : r ≤ 100) (h : isProp n d = true) : EvOk m ⟨c, a, r, mkRat ((n : Nat) : Int) d⟩ := by
  unfold isProp at h
  simp at h
  refine ⟨hc, ha, hr, mk_pos (by omega) (by omega), ?_, ?_⟩
  · show (mkRat ((n : Nat) : Int) d).num ≤ 1000
    rw [Rat.num_mkRat, if_neg (by omega)]
    have := Int.ediv_le_self (a := ((n : Nat) : Int)) (((d.gcd ((n : Nat) : Int).natAbs : Nat)) : Int) (Int.natCast_nonneg _)
    omega
  · show (mkRat ((n : Nat) : Int) d).den ≤ 5000
    rw [Rat.den_mkRat, if_neg (by omega)]
    have := Nat.div_le_self d (d.gcd ((n : Nat) : Int).natAbs)
    omega
theorem ev_log (W : Wf m) {r : Nat} (hk : k < 3) (hc : c < m.nc) (ha : a < m.na) (hr : r ≤ 100) (h : chance m k c a ≠ 0) : EvOk m ⟨c, a, r, chance m k c a⟩ := by
  have h0 := chance_nonneg (m := m) (k := k) (c := c) (a := a)
  have he := chance_ev (a := a) W hk hc
  exact ⟨hc, ha, hr, by show 0 < chance m k c a; grind, he.1, he.2⟩
theorem wf_add (W : Wf m) {x : Ev} (h : EvOk m x) (h40 : m.ev.length < 40) : Wf { m with ev := m.ev ++ [x] } := by
  refine ⟨W.nc1, W.nc6, W.na1, W.na5, ?_, fun e he => ?_, W.pol3, W.pol, W.mo, W.tw, W.tr⟩
  · show (m.ev ++ [x]).length ≤ 40
    rw [List.length_append, List.length_singleton]
    omega
  · rcases List.mem_append.mp he with he | he
    · exact W.ev e he
    · rw [List.mem_singleton.mp he]
      exact h
theorem wf_remove (W : Wf m) : Wf { m with ev := m.ev.dropLast } := by
  refine ⟨W.nc1, W.nc6, W.na1, W.na5, ?_, fun e he => W.ev e (List.dropLast_subset _ he), W.pol3, W.pol, W.mo, W.tw, W.tr⟩
  show m.ev.dropLast.length ≤ 40
  rw [List.length_dropLast]
  have := W.ev40
  omega
theorem wts_row {row : List Nat} {n : Nat} (h : isWts row n = true) : row.length = n ∧ (∀ x ∈ row, x ≤ 1000) ∧ 0 < row.sum := by
  unfold isWts allLe at h
  rw [Bool.and_eq_true, Bool.and_eq_true] at h
  exact ⟨beq_iff_eq.mp h.1, fun x hx => of_decide_eq_true (List.all_eq_true.mp h.2.1 x hx), of_decide_eq_true h.2.2⟩
theorem rews_row {row : List Nat} {n : Nat} (h : isRews row n = true) : row.length = n ∧ ∀ x ∈ row, x ≤ 100 := by
  unfold isRews allLe at h
  rw [Bool.and_eq_true] at h
  exact ⟨beq_iff_eq.mp h.1, fun x hx => of_decide_eq_true (List.all_eq_true.mp h.2 x hx)⟩
theorem pol_at (W : Wf m) (hk : k < 3) : m.pol.getD k [] ∈ m.pol := by
  rw [List.getD_eq_getElem?_getD, List.getElem?_eq_getElem (by rw [W.pol3]; exact hk)]
  exact List.getElem_mem _
theorem wf_policy (W : Wf m) {row : List Nat} (hk : k < 3) (hc : c < m.nc) (h : isWts row m.na = true) : Wf { m with pol := m.pol.set k ((m.pol.getD k []).set c row) } := by
  have hr := wts_row h
  have hp := W.pol _ (pol_at W hk)
  refine ⟨W.nc1, W.nc6, W.na1, W.na5, W.ev40, W.ev, by show (m.pol.set k _).length = 3; rw [List.length_set]; exact W.pol3, fun P hP => ?_, W.mo, W.tw, W.tr⟩
  rcases List.mem_or_eq_of_mem_set hP with hP | rfl
  · exact W.pol P hP
  · refine ⟨by rw [List.length_set]; exact hp.1, fun w hw => ?_⟩
    rcases List.mem_or_eq_of_mem_set hw with hw | rfl
    · exact hp.2 w hw
    · exact hr
theorem wf_copy (W : Wf m) {b : Nat} (ha : a < 3) (hb : b < 3) : Wf { m with pol := m.pol.set b (m.pol.getD a []) } := by
  refine ⟨W.nc1, W.nc6, W.na1, W.na5, W.ev40, W.ev, by show (m.pol.set b _).length = 3; rw [List.length_set]; exact W.pol3, fun P hP => ?_, W.mo, W.tw, W.tr⟩
  rcases List.mem_or_eq_of_mem_set hP with hP | rfl
  · exact W.pol P hP
  · exact W.pol _ (pol_at W ha)
theorem wf_mo (W : Wf m) {mo : List (List Rw)} (h : mo.length = m.nc ∧ ∀ r ∈ mo, r.length = m.na ∧ ∀ q ∈ r, 0 ≤ q ∧ q ≤ 100 ∧ q.den ≤ 40) : Wf { m with mo := mo } :=
  ⟨W.nc1, W.nc6, W.na1, W.na5, W.ev40, W.ev, W.pol3, W.pol, h, W.tw, W.tr⟩
theorem nat_q {x : Nat} (h : x ≤ 100) : (0 : Rat) ≤ ((x : Nat) : Rat) ∧ ((x : Nat) : Rat) ≤ 100 ∧ (((x : Nat) : Rat)).den ≤ 40 :=
  ⟨Rat.natCast_nonneg, by
    show ((x : Nat) : Rat) ≤ ((100 : Nat) : Rat)
    exact Rat.natCast_le_natCast.mpr h, by show 1 ≤ 40; decide⟩
theorem wf_model (W : Wf m) {row : List Nat} (hc : c < m.nc) (h : isRews row m.na = true) : Wf { m with mo := m.mo.set c (row.map fun (x : Nat) => (x : Rw)) } := by
  have hr := rews_row h
  refine wf_mo W ⟨by rw [List.length_set]; exact W.mo.1, fun r hx => ?_⟩
  rcases List.mem_or_eq_of_mem_set hx with hx | rfl
  · exact W.mo.2 r hx
  · refine ⟨by rw [List.length_map]; exact hr.1, fun q hq => ?_⟩
    obtain ⟨x, hx, rfl⟩ := List.mem_map.mp hq
    exact nat_q (hr.2 x hx)
theorem mean_q {l : List Nat} (h : ∀ x ∈ l, x ≤ 100) (h0 : l ≠ []) (h40 : l.length ≤ 40) : 0 ≤ meanR (l.map fun (x : Nat) => (x : Rat)) ∧ meanR (l.map fun (x : Nat) => (x : Rat)) ≤ 100 ∧ (meanR (l.map fun (x : Nat) => (x : Rat))).den ≤ 40 := by
  have hl : 0 < l.length := List.length_pos_iff.mpr h0
  have hs : (l.map fun (x : Nat) => (x : Rat)).sum = ((l.sum : Nat) : Rat) := by
    clear h h0 h40 hl
    induction l with
    | nil => rfl
    | cons x r ih => rw [List.map_cons, List.sum_cons, ih, List.sum_cons, Rat.natCast_add]
  have e : meanR (l.map fun (x : Nat) => (x : Rat)) = mkRat ((l.sum : Nat) : Int) l.length := by
    unfold meanR
    rw [hs, List.length_map, Rat.mkRat_eq_div]
    rfl
  rw [e]
  refine ⟨mk_nonneg _ _, ?_, ?_⟩
  · have hle := sum_le h (n := l.length) (Nat.le_refl _)
    rw [Rat.mkRat_eq_div]
    show ((l.sum : Nat) : Rat) / ((l.length : Nat) : Rat) ≤ 100
    have p : (0 : Rat) < ((l.length : Nat) : Rat) := Rat.natCast_pos.mpr hl
    have q : ((l.sum : Nat) : Rat) ≤ ((l.length : Nat) : Rat) * 100 := by
      have := Rat.natCast_le_natCast.mpr hle
      rw [Rat.natCast_mul] at this
      exact this
    rw [Rat.div_def]
    have i := Rat.inv_pos.mpr p
    have := Rat.mul_le_mul_of_nonneg_right q (Rat.le_of_lt i)
    have e2 : ((l.length : Nat) : Rat) * 100 * ((l.length : Nat) : Rat)⁻¹ = 100 := by
      have := natR hl
      generalize ((l.length : Nat) : Rat) = o at *
      grind
    rw [e2] at this
    exact this
  · rw [Rat.den_mkRat, if_neg (by omega)]
    exact Nat.le_trans (Nat.div_le_self _ _) h40
theorem rews_mean (W : Wf m) (p : Ev → Bool) (h0 : (m.ev.filter p).map (fun e => (e.r : Rat)) ≠ []) : 0 ≤ meanR ((m.ev.filter p).map fun e => (e.r : Rat)) ∧ meanR ((m.ev.filter p).map fun e => (e.r : Rat)) ≤ 100 ∧ (meanR ((m.ev.filter p).map fun e => (e.r : Rat))).den ≤ 40 := by
  have e : (m.ev.filter p).map (fun e => (e.r : Rat)) = ((m.ev.filter p).map Ev.r).map fun (x : Nat) => (x : Rat) := by
    rw [List.map_map]
    rfl
  rw [e]
  refine mean_q (fun x hx => ?_) (fun z => h0 (by rw [e, z]; rfl)) ?_
  · obtain ⟨y, hy, rfl⟩ := List.mem_map.mp hx
    exact (evo_all W y (List.mem_filter.mp hy).1).2.2.1
  · rw [List.length_map]
    exact Nat.le_trans (List.length_filter_le _ _) W.ev40
theorem fitted_q (W : Wf m) : 0 ≤ fitted m c a ∧ fitted m c a ≤ 100 ∧ (fitted m c a).den ≤ 40 := by
  unfold fitted
  split
  · split
    · exact ⟨Rat.le_refl, by decide, by decide⟩
    · rename_i h
      exact rews_mean W _ h
  · rename_i h
    exact rews_mean W _ h
theorem wf_fit1 (W : Wf m) {mo : List (List Rw)} {i : Nat} (W2 : Wf { m with mo := mo }) (hi : i < m.nc) : Wf { m with mo := mo.set i (fitRow m i) } := by
  refine wf_mo W ⟨by rw [List.length_set]; exact W2.mo.1, fun r hx => ?_⟩
  rcases List.mem_or_eq_of_mem_set hx with hx | rfl
  · exact W2.mo.2 r hx
  · unfold fitRow
    refine ⟨range_len _ _, fun q hq => ?_⟩
    obtain ⟨a, _, rfl⟩ := List.mem_map.mp hq
    exact fitted_q W
theorem wf_truth (W : Wf m) {x : Nat} {row : List Nat} (hc : c < m.nc) (h1 : 1 ≤ x) (h2 : x ≤ 1000) (h : isRews row m.na = true) : Wf { m with tw := m.tw.set c x, tr := m.tr.set c row } := by
  have hr := rews_row h
  refine ⟨W.nc1, W.nc6, W.na1, W.na5, W.ev40, W.ev, W.pol3, W.pol, W.mo, ⟨by show (m.tw.set c x).length = m.nc; rw [List.length_set]; exact W.tw.1, fun y hy => ?_⟩, ⟨by show (m.tr.set c row).length = m.nc; rw [List.length_set]; exact W.tr.1, fun r hx => ?_⟩⟩
  · rcases List.mem_or_eq_of_mem_set hy with hy | rfl
    · exact W.tw.2 y hy
    · exact ⟨h1, h2⟩
  · rcases List.mem_or_eq_of_mem_set hx with hx | rfl
    · exact W.tr.2 r hx
    · exact hr
theorem sum_rep (k x : Nat) : (List.replicate k x).sum = k * x := by
  induction k with
  | zero => simp
  | succ k ih => rw [List.replicate_succ, List.sum_cons, ih, Nat.succ_mul, Nat.add_comm]
theorem wf_fresh {n k : Nat} (h1 : 1 ≤ n) (h2 : n ≤ 6) (h3 : 1 ≤ k) (h4 : k ≤ 5) : Wf (fresh n k) := by
  refine ⟨h1, h2, h3, h4, (by show 0 ≤ 40; decide), (fun e he => by cases he), rfl, fun P hP => ?_, ⟨List.length_replicate, fun r hr => ?_⟩, ⟨List.length_replicate, fun x hx => ?_⟩, ⟨List.length_replicate, fun r hr => ?_⟩⟩
  · rw [List.eq_of_mem_replicate hP]
    refine ⟨List.length_replicate, fun w hw => ?_⟩
    rw [List.eq_of_mem_replicate hw]
    refine ⟨List.length_replicate, fun x hx => ?_, ?_⟩
    · rw [List.eq_of_mem_replicate hx]
      decide
    · rw [sum_rep]
      omega
  · rw [List.eq_of_mem_replicate hr]
    refine ⟨List.length_replicate, fun q hq => ?_⟩
    rw [List.eq_of_mem_replicate hq]
    exact ⟨Rat.le_refl, by decide, by decide⟩
  · rw [List.eq_of_mem_replicate hx]
    decide
  · rw [List.eq_of_mem_replicate hr]
    refine ⟨List.length_replicate, fun x hx => ?_⟩
    rw [List.eq_of_mem_replicate hx]
    decide
end
end Lw

namespace Lw
open PySem PySem.Spec PyProof.Rows L2
local macro_rules | `(tactic| wtm_at "lwsame") => `(tactic| first
  | assumption | exact Same.refl _ | (refine Same.trans (by assumption) ?_; wtm_at "lwsame"))
local macro_rules | `(tactic| wtm_at "lwup") => `(tactic| first
  | assumption
  | ((with_reducible show SqT _ _ _ _); first | (refine sqT_up ?_ (by assumption); wtm_at "lwsame") | (refine KT.sq ?_ _; assumption) | (refine SqT.of ?_; wtm_at "lwup"))
  | ((with_reducible show SqL _ _ _ _); first | (refine sqL_up ?_ (by assumption); wtm_at "lwsame") | (refine SqL.of ?_; wtm_at "lwup"))
  | ((with_reducible show _ = some _); refine (show Same _ _ by wtm_at "lwsame") _ _ (by assumption))
  | ((with_reducible show Fq _ _ _ _); refine Fq.up ?_ (by assumption); wtm_at "lwsame")
  | ((with_reducible show Fs _ _ _ _); refine Fs.up ?_ (by assumption); wtm_at "lwsame")
  | ((with_reducible show Is _ _ _ _); refine Is.up ?_ (by assumption); wtm_at "lwsame")
  | ((with_reducible show Ns _ _ _ _); refine Ns.up ?_ (by assumption); wtm_at "lwsame")
  | ((with_reducible show Eq4 _ _ _ _); refine Eq4.up ?_ (by assumption); wtm_at "lwsame")
  | ((with_reducible show Evs _ _ _ _); refine Evs.up ?_ (by assumption); wtm_at "lwsame"))
local macro_rules | `(tactic| wtm_at "lwst2") => `(tactic| first
  | (with_reducible refine st_drop ?_)
  | (with_reducible refine st_par ?_)
  | (with_reducible refine st_par2 ?_)
  | (with_reducible refine st_un ?_)
  | (with_reducible refine st_rU ?_)
  | (with_reducible refine st_B ?_)
  | (with_reducible refine st_not ?_)
  | (with_reducible refine st_and ?_)
  | (with_reducible refine st_or ?_)
  | (with_reducible refine st_andV ?_)
  | (with_reducible refine st_orV ?_)
  | (with_reducible refine st_isB2 ?_)
  | (with_reducible refine st_ifE ?_)
  | (with_reducible refine st_yes ?_)
  | (with_reducible refine st_forL ?_)
  | (with_reducible refine st_forR ?_)
  | (with_reducible refine st_lcL ?_)
  | (with_reducible refine st_lcR ?_)
  | (with_reducible refine st_lcZ ?_)
  | (with_reducible refine st_bm ?_)
  | (with_reducible refine st_sfld ?_)
  | (with_reducible refine st_gsub ?_)
  | (with_reducible refine st_meth ?_)
  | (with_reducible refine st_sl ?_)
  | (with_reducible refine st_nopart ?_)
  | (with_reducible refine st_part ?_)
  | (with_reducible refine st_isI ?_)
  | (with_reducible refine st_rev ?_)
  | (with_reducible refine st_ckw ?_)
  | (with_reducible refine st_abs ?_)
  | ((with_reducible refine st_eq ?hh ?_); (case hh => exact rfl))
  | ((with_reducible refine st_ne ?hh ?_); (case hh => exact rfl))
  | ((with_reducible refine st_ixT (v := ?vv) (xs := ?xx) ?hh ?hi ?_); (case hh => wtm_at "lwup"); (case hi => exact rfl))
  | ((with_reducible refine st_gtup (xs := ?xx) ?hh ?hi ?_); (case hh => wtm_at "lwup"); (case hi => exact rfl)))
local macro_rules | `(tactic| wtm_at "lwst") => `(tactic| first
  | (with_reducible refine st_cons ?_)
  | ((with_reducible refine st_var (v := ?vv) ?hh ?_); (case hh => exact rfl))
  | (with_reducible refine st_nil ?_)
  | (with_reducible refine st_call ?_)
  | (with_reducible refine st_gname ?_)
  | (with_reducible refine st_c ?_)
  | (with_reducible refine st_seq ?_)
  | (with_reducible refine st_op ?_)
  | (with_reducible refine st_ret ?_)
  | (with_reducible refine st_lst ?_)
  | (with_reducible refine st_gcons ?_)
  | (with_reducible refine st_asg ?_)
  | (with_reducible refine st_isB ?_)
  | (with_reducible refine st_ifS ?_)
  | (with_reducible refine st_nx0 ?_)
  | (with_reducible refine st_test ?_)
  | (with_reducible refine st_fld ?_)
  | (with_reducible refine st_nx ?_)
  | (with_reducible refine st_rI0 ?_)
  | (with_reducible refine st_callB ?_)
  | (with_reducible refine st_gnil ?_)
  | (with_reducible refine st_tup ?_)
  | wtm_at "lwst2")

section
variable {P : Program} {w : World} {K : PySem.W.Frag} {mg : Str → Option Value} {base : Heap} {az an aw d1 d2 d3 C : Addr}

def sp_is_between (K : PySem.W.Frag) (C : Addr) : Sp := fun vs H Q _ => ∃ i lo hi : Int, vs = [.int i, .int lo, .int hi] ∧ Q (.bl (decide (lo ≤ i) && decide (i ≤ hi))) H
abbrev s_is_between : Stmt := top 37
theorem sc_is_between : FnScope ["number", "least", "most"] ["number", "least", "most"] (defScope s_is_between) := ⟨rfl, rfl, rfl, by decide +kernel, rfl, by decide +kernel, by decide +kernel⟩
theorem ok_is_between (T : Tx K mg az an aw d1 d2 d3 C) (h : Has K mg "is_between" s_is_between ["number", "least", "most"]) :
    Ok P w K mg base "is_between" 1 ["number", "least", "most"] (sp_is_between K C) := by
  refine ok_of h sc_is_between (fun vs H Q E h => ?_) (fun f cdv A outer s H vs Q E hr h => ⟨_, (pss_one (ps_ret (pe_and (pe_cmpR op_le (pv 1) (pv 0) (nomark _)) (pe_one (pe_cmpR op_le (pv 0) (pv 2) (nomark _)))))), ?_⟩)
  · first | (obtain ⟨_, rfl, _⟩ := h; rfl) | (obtain ⟨_, _, rfl, _⟩ := h; rfl) | (obtain ⟨_, _, _, rfl, _⟩ := h; rfl) | (obtain ⟨_, _, _, _, rfl, _⟩ := h; rfl) | (obtain ⟨_, _, _, _, _, rfl, _⟩ := h; rfl) | (obtain ⟨_, _, _, _, _, _, rfl, _⟩ := h; rfl) | (obtain ⟨_, _, _, _, _, _, _, rfl, _⟩ := h; rfl) | (obtain ⟨_, _, _, _, _, _, _, _, rfl, _⟩ := h; rfl) | (obtain ⟨_, _, _, _, _, _, _, _, _, rfl, _⟩ := h; rfl) | (obtain ⟨_, _, _, _, _, _, _, _, _, _, rfl, _⟩ := h; rfl) | (obtain ⟨_, _, _, _, _, _, _, _, _, _, _, rfl, _⟩ := h; rfl) | (obtain ⟨_, _, _, _, _, _, _, _, _, _, _, _, rfl, _⟩ := h; rfl) | (obtain ⟨_, _, _, _, _, _, _, _, _, _, _, _, _, rfl, _⟩ := h; rfl)

  · obtain ⟨i, lo, hi, rfl, k⟩ := h
    repeat wtm_at "lwst"
    refine cond_2 (fun c => ?_) (fun c => ?_)
    · rw [c, Bool.true_and] at k
      repeat wtm_at "lwst"
      exact k
    · rw [c, Bool.false_and] at k
      exact k
def sp_are_between (K : PySem.W.Frag) (C : Addr) : Sp := fun vs H Q _ => ∃ (a : V) (ns : List Int) (lo hi : Int), vs = [a, .int lo, .int hi] ∧ Is K H a ns ∧ Q (.bl (ns.all fun x => decide (lo ≤ x) && decide (x ≤ hi))) H
abbrev s_are_between : Stmt := top 38
theorem sc_are_between : FnScope ["numbers", "least", "most", "number"] ["numbers", "least", "most"] (defScope s_are_between) := ⟨rfl, rfl, rfl, by decide +kernel, rfl, by decide +kernel, by decide +kernel⟩
theorem ok_are_between (T : Tx K mg az an aw d1 d2 d3 C) (h : Has K mg "are_between" s_are_between ["numbers", "least", "most"]) (O_is_between : Ok P w K mg base "is_between" 1 ["number", "least", "most"] (sp_is_between K C)) :
    Ok P w K mg base "are_between" 2 ["numbers", "least", "most"] (sp_are_between K C) := by
  refine ok_of h sc_are_between (fun vs H Q E h => ?_) (fun f cdv A outer s H vs Q E hr h => ⟨_, (pss_cons (ps_for PassesOwn.never rfl (pi_list (pv 0)) (pg_name (i := 3) sc_are_between.nd rfl (Or.inl rfl)) (pss_one (ps_if (pt_not (pt_val (pe_go O_is_between (hr.mono (by decide)) (by rfl) (pa_cons (pv 3) (pa_cons (pv 1) (pa_cons (pv 2) pa_nil)))))) (pss_one (ps_ret pe_bl)) pss_nil)))
      (pss_one (ps_ret pe_bl))), ?_⟩)
  · first | (obtain ⟨_, rfl, _⟩ := h; rfl) | (obtain ⟨_, _, rfl, _⟩ := h; rfl) | (obtain ⟨_, _, _, rfl, _⟩ := h; rfl) | (obtain ⟨_, _, _, _, rfl, _⟩ := h; rfl) | (obtain ⟨_, _, _, _, _, rfl, _⟩ := h; rfl) | (obtain ⟨_, _, _, _, _, _, rfl, _⟩ := h; rfl) | (obtain ⟨_, _, _, _, _, _, _, rfl, _⟩ := h; rfl) | (obtain ⟨_, _, _, _, _, _, _, _, rfl, _⟩ := h; rfl) | (obtain ⟨_, _, _, _, _, _, _, _, _, rfl, _⟩ := h; rfl) | (obtain ⟨_, _, _, _, _, _, _, _, _, _, rfl, _⟩ := h; rfl) | (obtain ⟨_, _, _, _, _, _, _, _, _, _, _, rfl, _⟩ := h; rfl) | (obtain ⟨_, _, _, _, _, _, _, _, _, _, _, _, rfl, _⟩ := h; rfl) | (obtain ⟨_, _, _, _, _, _, _, _, _, _, _, _, _, rfl, _⟩ := h; rfl)

  · obtain ⟨a, ns, lo, hi, rfl, ⟨p, rfl, hp⟩, k⟩ := h
    repeat wtm_at "lwst"
    refine go_forL (Same.refl H) hp (fun i σ H1 => H1 = H ∧ ((ns.take i).all fun x => decide (lo ≤ x) && decide (x ≤ hi)) = true ∧ ∃ o, σ = [some (.ref p), some (.int lo), some (.int hi), o]) ⟨rfl, rfl, none, rfl⟩ ?_ ?_
    · rintro i x σ H1 hx e ⟨rfl, ha, o, rfl⟩
      rw [List.getElem?_map] at hx
      obtain ⟨n, hn, rfl⟩ := Option.map_eq_some_iff.mp hx
      repeat wtm_at "lwst"
      refine ⟨_, _, _, rfl, ?_⟩
      repeat wtm_at "lwst"
      refine cond_2 (fun c => ?_) (fun c => ?_)
      · repeat wtm_at "lwst"
        rw [Bool.not_eq_true'] at c
        have e : (ns.all fun x => decide (lo ≤ x) && decide (x ≤ hi)) = false := by
          rw [List.all_eq_false]
          exact ⟨n, mem_ix hn, by rw [c]; simp⟩
        rw [e] at k
        exact k
      · repeat wtm_at "lwst"
        refine ⟨Same.refl _, rfl, ?_, some (.int n), rfl⟩
        rw [Bool.not_eq_false'] at c
        rw [List.take_succ, hn, List.all_append, ha]
        show (true && (([n] : List Int).all _)) = true
        rw [List.all_cons, c]
        rfl
    · rintro σ H1 e ⟨rfl, ha, o, rfl⟩
      repeat wtm_at "lwst"
      rw [List.length_map, List.take_length] at ha
      rw [ha] at k
      exact k
theorem all_nz (l : List Nat) (hi : Nat) : ((nz l).all fun x => decide ((0 : Int) ≤ x) && decide (x ≤ (hi : Int))) = allLe l hi := by
  unfold nz allLe
  rw [List.all_map]
  congr 1
  funext x
  show (decide ((0 : Int) ≤ (x : Int)) && decide ((x : Int) ≤ (hi : Int))) = _
  rw [Bool.eq_iff_iff]
  simp
def sp_is_policy (K : PySem.W.Frag) (C : Addr) : Sp := fun vs H Q _ => ∃ k : Nat, vs = [.int (k : Int)] ∧ Q (.bl (isPol k)) H
abbrev s_is_policy : Stmt := top 39
theorem sc_is_policy : FnScope ["policy"] ["policy"] (defScope s_is_policy) := ⟨rfl, rfl, rfl, by decide +kernel, rfl, by decide +kernel, by decide +kernel⟩
theorem ok_is_policy (T : Tx K mg az an aw d1 d2 d3 C) (h : Has K mg "is_policy" s_is_policy ["policy"]) (O_is_between : Ok P w K mg base "is_between" 1 ["number", "least", "most"] (sp_is_between K C)) :
    Ok P w K mg base "is_policy" 2 ["policy"] (sp_is_policy K C) := by
  refine ok_of h sc_is_policy (fun vs H Q E h => ?_) (fun f cdv A outer s H vs Q E hr h => ⟨_, (pss_one (ps_ret (pe_go O_is_between (hr.mono (by decide)) (by rfl) (pa_cons (pv 0) (pa_cons pe_int (pa_cons (pe_op op_sub (pe_globI (by rfl) T.m_POLICIES) pe_int) pa_nil)))))), ?_⟩)
  · first | (obtain ⟨_, rfl, _⟩ := h; rfl) | (obtain ⟨_, _, rfl, _⟩ := h; rfl) | (obtain ⟨_, _, _, rfl, _⟩ := h; rfl) | (obtain ⟨_, _, _, _, rfl, _⟩ := h; rfl) | (obtain ⟨_, _, _, _, _, rfl, _⟩ := h; rfl) | (obtain ⟨_, _, _, _, _, _, rfl, _⟩ := h; rfl) | (obtain ⟨_, _, _, _, _, _, _, rfl, _⟩ := h; rfl) | (obtain ⟨_, _, _, _, _, _, _, _, rfl, _⟩ := h; rfl) | (obtain ⟨_, _, _, _, _, _, _, _, _, rfl, _⟩ := h; rfl) | (obtain ⟨_, _, _, _, _, _, _, _, _, _, rfl, _⟩ := h; rfl) | (obtain ⟨_, _, _, _, _, _, _, _, _, _, _, rfl, _⟩ := h; rfl) | (obtain ⟨_, _, _, _, _, _, _, _, _, _, _, _, rfl, _⟩ := h; rfl) | (obtain ⟨_, _, _, _, _, _, _, _, _, _, _, _, _, rfl, _⟩ := h; rfl)

  · obtain ⟨n, rfl, k⟩ := h
    repeat wtm_at "lwst"
    refine ⟨_, _, _, rfl, ?_⟩
    have e : (decide ((0 : Int) ≤ (n : Int)) && decide ((n : Int) ≤ 3 - 1)) = isPol n := by
      unfold isPol
      rw [Bool.eq_iff_iff]
      simp
      omega
    rw [e]
    exact k
def sp_is_propensity (K : PySem.W.Frag) (C : Addr) : Sp := fun vs H Q _ => ∃ n d : Nat, vs = [.int (n : Int), .int (d : Int)] ∧ Q (.bl (isProp n d)) H
abbrev s_is_propensity : Stmt := top 40
theorem sc_is_propensity : FnScope ["above", "below"] ["above", "below"] (defScope s_is_propensity) := ⟨rfl, rfl, rfl, by decide +kernel, rfl, by decide +kernel, by decide +kernel⟩
theorem ok_is_propensity (T : Tx K mg az an aw d1 d2 d3 C) (h : Has K mg "is_propensity" s_is_propensity ["above", "below"]) :
    Ok P w K mg base "is_propensity" 1 ["above", "below"] (sp_is_propensity K C) := by
  refine ok_of h sc_is_propensity (fun vs H Q E h => ?_) (fun f cdv A outer s H vs Q E hr h => ⟨_, (pss_one (ps_ret (pe_and (pe_cmpR op_le pe_int (pv 0) (nomark _)) (pe_and (pe_cmpR op_le (pv 0) (pv 1) (nomark _)) (pe_one (pe_cmpR op_le (pv 1) (pe_globI (by rfl) T.m_MOST_PART) (nomark _))))))), ?_⟩)
  · first | (obtain ⟨_, rfl, _⟩ := h; rfl) | (obtain ⟨_, _, rfl, _⟩ := h; rfl) | (obtain ⟨_, _, _, rfl, _⟩ := h; rfl) | (obtain ⟨_, _, _, _, rfl, _⟩ := h; rfl) | (obtain ⟨_, _, _, _, _, rfl, _⟩ := h; rfl) | (obtain ⟨_, _, _, _, _, _, rfl, _⟩ := h; rfl) | (obtain ⟨_, _, _, _, _, _, _, rfl, _⟩ := h; rfl) | (obtain ⟨_, _, _, _, _, _, _, _, rfl, _⟩ := h; rfl) | (obtain ⟨_, _, _, _, _, _, _, _, _, rfl, _⟩ := h; rfl) | (obtain ⟨_, _, _, _, _, _, _, _, _, _, rfl, _⟩ := h; rfl) | (obtain ⟨_, _, _, _, _, _, _, _, _, _, _, rfl, _⟩ := h; rfl) | (obtain ⟨_, _, _, _, _, _, _, _, _, _, _, _, rfl, _⟩ := h; rfl) | (obtain ⟨_, _, _, _, _, _, _, _, _, _, _, _, _, rfl, _⟩ := h; rfl)

  · obtain ⟨n, d, rfl, k⟩ := h
    have e : isProp n d = (decide ((1 : Int) ≤ (n : Int)) && (decide ((n : Int) ≤ (d : Int)) && decide ((d : Int) ≤ 1000))) := by
      unfold isProp
      rw [Bool.eq_iff_iff]
      simp
      omega
    rw [e] at k
    repeat wtm_at "lwst"
    refine cond_2 (fun c => ?_) (fun c => ?_)
    · rw [c, Bool.true_and] at k
      repeat wtm_at "lwst"
      refine cond_2 (fun c => ?_) (fun c => ?_)
      · rw [c, Bool.true_and] at k
        repeat wtm_at "lwst"
        exact k
      · rw [c, Bool.false_and] at k
        exact k
    · rw [c, Bool.false_and] at k
      exact k
def sp_are_weights (K : PySem.W.Frag) (C : Addr) : Sp := fun vs H Q _ => ∃ (a : V) (l : List Nat) (n : Nat), vs = [a, .int (n : Int)] ∧ Ns K H a l ∧ Q (.bl (isWts l n)) H
theorem dec_len (a b : Nat) : decide (V.int (a : Int) = V.int (b : Int)) = (a == b) := by
  rw [dec_int, Bool.eq_iff_iff, beq_iff_eq, beq_iff_eq]
  omega
abbrev s_are_weights : Stmt := top 41
theorem sc_are_weights : FnScope ["weights", "actions"] ["weights", "actions"] (defScope s_are_weights) := ⟨rfl, rfl, rfl, by decide +kernel, rfl, by decide +kernel, by decide +kernel⟩
theorem ok_are_weights (T : Tx K mg az an aw d1 d2 d3 C) (h : Has K mg "are_weights" s_are_weights ["weights", "actions"]) (O_are_between : Ok P w K mg base "are_between" 2 ["numbers", "least", "most"] (sp_are_between K C)) :
    Ok P w K mg base "are_weights" 3 ["weights", "actions"] (sp_are_weights K C) := by
  refine ok_of h sc_are_weights (fun vs H Q E h => ?_) (fun f cdv A outer s H vs Q E hr h => ⟨_, (pss_one (ps_ret (pe_and (pe_cmpR op_eq (pe_callB (cb_lenK (K := K) rfl) (by rfl) T.b_len PySem.boot_len (pa_cons (pv 0) pa_nil)) (pv 1) (nomark _)) (pe_and (pe_go O_are_between (hr.mono (by decide)) (by rfl) (pa_cons (pv 0) (pa_cons pe_int (pa_cons (pe_globI (by rfl) T.m_MOST_WEIGHT) pa_nil)))) (pe_one (pe_cmpR op_gt (pe_callB (cr_sumK (K := K) rfl rfl) (by rfl) T.b_sum (by decide +kernel) (pa_cons (pv 0) pa_nil)) pe_int (nomark _))))))), ?_⟩)
  · first | (obtain ⟨_, rfl, _⟩ := h; rfl) | (obtain ⟨_, _, rfl, _⟩ := h; rfl) | (obtain ⟨_, _, _, rfl, _⟩ := h; rfl) | (obtain ⟨_, _, _, _, rfl, _⟩ := h; rfl) | (obtain ⟨_, _, _, _, _, rfl, _⟩ := h; rfl) | (obtain ⟨_, _, _, _, _, _, rfl, _⟩ := h; rfl) | (obtain ⟨_, _, _, _, _, _, _, rfl, _⟩ := h; rfl) | (obtain ⟨_, _, _, _, _, _, _, _, rfl, _⟩ := h; rfl) | (obtain ⟨_, _, _, _, _, _, _, _, _, rfl, _⟩ := h; rfl) | (obtain ⟨_, _, _, _, _, _, _, _, _, _, rfl, _⟩ := h; rfl) | (obtain ⟨_, _, _, _, _, _, _, _, _, _, _, rfl, _⟩ := h; rfl) | (obtain ⟨_, _, _, _, _, _, _, _, _, _, _, _, rfl, _⟩ := h; rfl) | (obtain ⟨_, _, _, _, _, _, _, _, _, _, _, _, _, rfl, _⟩ := h; rfl)

  · obtain ⟨a, l, n, rfl, ⟨p, rfl, hp⟩, k⟩ := h
    unfold isWts at k
    repeat wtm_at "lwst"
    refine st_len hp ?_
    repeat wtm_at "lwst"
    rw [nzV_len, dec_len]
    refine cond_2 (fun c => ?_) (fun c => ?_)
    · rw [c, Bool.true_and] at k
      repeat wtm_at "lwst"
      refine ⟨_, _, 0, 1000, rfl, ⟨p, rfl, hp⟩, ?_⟩
      repeat wtm_at "lwst"
      rw [show (1000 : Int) = ((1000 : Nat) : Int) from rfl, all_nz]
      refine cond_2 (fun c => ?_) (fun c => ?_)
      · rw [c, Bool.true_and] at k
        repeat wtm_at "lwst"
        refine st_sum hp ?_
        repeat wtm_at "lwst"
        rw [nz_sum, show decide ((0 : Int) < ((l.sum : Nat) : Int)) = decide (0 < l.sum) from decide_eq_decide.mpr (by omega)]
        exact k
      · rw [c, Bool.false_and] at k
        exact k
    · rw [c, Bool.false_and] at k
      exact k
def sp_are_rewards (K : PySem.W.Frag) (C : Addr) : Sp := fun vs H Q _ => ∃ (a : V) (l : List Nat) (n : Nat), vs = [a, .int (n : Int)] ∧ Ns K H a l ∧ Q (.bl (isRews l n)) H
abbrev s_are_rewards : Stmt := top 42
theorem sc_are_rewards : FnScope ["rewards", "actions"] ["rewards", "actions"] (defScope s_are_rewards) := ⟨rfl, rfl, rfl, by decide +kernel, rfl, by decide +kernel, by decide +kernel⟩
theorem ok_are_rewards (T : Tx K mg az an aw d1 d2 d3 C) (h : Has K mg "are_rewards" s_are_rewards ["rewards", "actions"]) (O_are_between : Ok P w K mg base "are_between" 2 ["numbers", "least", "most"] (sp_are_between K C)) :
    Ok P w K mg base "are_rewards" 3 ["rewards", "actions"] (sp_are_rewards K C) := by
  refine ok_of h sc_are_rewards (fun vs H Q E h => ?_) (fun f cdv A outer s H vs Q E hr h => ⟨_, (pss_one (ps_ret (pe_and (pe_cmpR op_eq (pe_callB (cb_lenK (K := K) rfl) (by rfl) T.b_len PySem.boot_len (pa_cons (pv 0) pa_nil)) (pv 1) (nomark _)) (pe_one (pe_go O_are_between (hr.mono (by decide)) (by rfl) (pa_cons (pv 0) (pa_cons pe_int (pa_cons (pe_globI (by rfl) T.m_MOST_REWARD) pa_nil)))))))), ?_⟩)
  · first | (obtain ⟨_, rfl, _⟩ := h; rfl) | (obtain ⟨_, _, rfl, _⟩ := h; rfl) | (obtain ⟨_, _, _, rfl, _⟩ := h; rfl) | (obtain ⟨_, _, _, _, rfl, _⟩ := h; rfl) | (obtain ⟨_, _, _, _, _, rfl, _⟩ := h; rfl) | (obtain ⟨_, _, _, _, _, _, rfl, _⟩ := h; rfl) | (obtain ⟨_, _, _, _, _, _, _, rfl, _⟩ := h; rfl) | (obtain ⟨_, _, _, _, _, _, _, _, rfl, _⟩ := h; rfl) | (obtain ⟨_, _, _, _, _, _, _, _, _, rfl, _⟩ := h; rfl) | (obtain ⟨_, _, _, _, _, _, _, _, _, _, rfl, _⟩ := h; rfl) | (obtain ⟨_, _, _, _, _, _, _, _, _, _, _, rfl, _⟩ := h; rfl) | (obtain ⟨_, _, _, _, _, _, _, _, _, _, _, _, rfl, _⟩ := h; rfl) | (obtain ⟨_, _, _, _, _, _, _, _, _, _, _, _, _, rfl, _⟩ := h; rfl)

  · obtain ⟨a, l, n, rfl, ⟨p, rfl, hp⟩, k⟩ := h
    unfold isRews at k
    repeat wtm_at "lwst"
    refine st_len hp ?_
    repeat wtm_at "lwst"
    rw [nzV_len, dec_len]
    refine cond_2 (fun c => ?_) (fun c => ?_)
    · rw [c, Bool.true_and] at k
      repeat wtm_at "lwst"
      refine ⟨_, _, 0, 100, rfl, ⟨p, rfl, hp⟩, ?_⟩
      rw [show (100 : Int) = ((100 : Nat) : Int) from rfl, all_nz]
      exact k
    · rw [c, Bool.false_and] at k
      exact k
def sp_is_estimator (K : PySem.W.Frag) (C : Addr) : Sp := fun vs H Q _ => ∃ kind limit : Nat, vs = [.int (kind : Int), .int (limit : Int)] ∧ Q (.bl (isEst kind limit)) H
abbrev s_is_estimator : Stmt := top 43
theorem sc_is_estimator : FnScope ["kind", "limit"] ["kind", "limit"] (defScope s_is_estimator) := ⟨rfl, rfl, rfl, by decide +kernel, rfl, by decide +kernel, by decide +kernel⟩
theorem ok_is_estimator (T : Tx K mg az an aw d1 d2 d3 C) (h : Has K mg "is_estimator" s_is_estimator ["kind", "limit"]) (O_is_between : Ok P w K mg base "is_between" 1 ["number", "least", "most"] (sp_is_between K C)) :
    Ok P w K mg base "is_estimator" 2 ["kind", "limit"] (sp_is_estimator K C) := by
  refine ok_of h sc_is_estimator (fun vs H Q E h => ?_) (fun f cdv A outer s H vs Q E hr h => ⟨_, (pss_one (ps_ret (pe_and (pe_go O_is_between (hr.mono (by decide)) (by rfl) (pa_cons (pv 0) (pa_cons pe_int (pa_cons (pe_globI (by rfl) T.m_MOST_KIND) pa_nil)))) (pe_one (pe_go O_is_between (hr.mono (by decide)) (by rfl) (pa_cons (pv 1) (pa_cons pe_int (pa_cons (pe_globI (by rfl) T.m_MOST_LIMIT) pa_nil)))))))), ?_⟩)
  · first | (obtain ⟨_, rfl, _⟩ := h; rfl) | (obtain ⟨_, _, rfl, _⟩ := h; rfl) | (obtain ⟨_, _, _, rfl, _⟩ := h; rfl) | (obtain ⟨_, _, _, _, rfl, _⟩ := h; rfl) | (obtain ⟨_, _, _, _, _, rfl, _⟩ := h; rfl) | (obtain ⟨_, _, _, _, _, _, rfl, _⟩ := h; rfl) | (obtain ⟨_, _, _, _, _, _, _, rfl, _⟩ := h; rfl) | (obtain ⟨_, _, _, _, _, _, _, _, rfl, _⟩ := h; rfl) | (obtain ⟨_, _, _, _, _, _, _, _, _, rfl, _⟩ := h; rfl) | (obtain ⟨_, _, _, _, _, _, _, _, _, _, rfl, _⟩ := h; rfl) | (obtain ⟨_, _, _, _, _, _, _, _, _, _, _, rfl, _⟩ := h; rfl) | (obtain ⟨_, _, _, _, _, _, _, _, _, _, _, _, rfl, _⟩ := h; rfl) | (obtain ⟨_, _, _, _, _, _, _, _, _, _, _, _, _, rfl, _⟩ := h; rfl)

  · obtain ⟨n, d, rfl, k⟩ := h
    have e : isEst n d = ((decide ((0 : Int) ≤ (n : Int)) && decide ((n : Int) ≤ 3)) && (decide ((1 : Int) ≤ (d : Int)) && decide ((d : Int) ≤ 100000))) := by
      unfold isEst
      rw [Bool.eq_iff_iff]
      simp
      omega
    rw [e] at k
    repeat wtm_at "lwst"
    refine ⟨_, _, _, rfl, ?_⟩
    repeat wtm_at "lwst"
    refine cond_2 (fun c => ?_) (fun c => ?_)
    · rw [c, Bool.true_and] at k
      repeat wtm_at "lwst"
      exact ⟨_, _, _, rfl, k⟩
    · rw [c, Bool.false_and] at k
      exact k
def sp_is_ranked (K : PySem.W.Frag) (C : Addr) : Sp := fun vs H Q _ => ∃ (a : V) (l : List Nat) (n t : Nat), vs = [a, .int (n : Int), .int (t : Int)] ∧ Ns K H a l ∧ Q (.bl (isRanked l n t)) H
abbrev s_is_ranked : Stmt := top 44
theorem sc_is_ranked : FnScope ["row", "least_ranks", "most_number"] ["row", "least_ranks", "most_number"] (defScope s_is_ranked) := ⟨rfl, rfl, rfl, by decide +kernel, rfl, by decide +kernel, by decide +kernel⟩
theorem ok_is_ranked (T : Tx K mg az an aw d1 d2 d3 C) (h : Has K mg "is_ranked" s_is_ranked ["row", "least_ranks", "most_number"]) (O_is_between : Ok P w K mg base "is_between" 1 ["number", "least", "most"] (sp_is_between K C)) (O_are_between : Ok P w K mg base "are_between" 2 ["numbers", "least", "most"] (sp_are_between K C)) :
    Ok P w K mg base "is_ranked" 3 ["row", "least_ranks", "most_number"] (sp_is_ranked K C) := by
  refine ok_of h sc_is_ranked (fun vs H Q E h => ?_) (fun f cdv A outer s H vs Q E hr h => ⟨_, (pss_one (ps_ret (pe_and (pe_go O_is_between (hr.mono (by decide)) (by rfl) (pa_cons (pe_callB (cb_lenK (K := K) rfl) (by rfl) T.b_len PySem.boot_len (pa_cons (pv 0) pa_nil)) (pa_cons (pv 1) (pa_cons (pe_globI (by rfl) T.m_MOST_RANKS) pa_nil)))) (pe_one (pe_go O_are_between (hr.mono (by decide)) (by rfl) (pa_cons (pv 0) (pa_cons pe_int (pa_cons (pv 2) pa_nil)))))))), ?_⟩)
  · first | (obtain ⟨_, rfl, _⟩ := h; rfl) | (obtain ⟨_, _, rfl, _⟩ := h; rfl) | (obtain ⟨_, _, _, rfl, _⟩ := h; rfl) | (obtain ⟨_, _, _, _, rfl, _⟩ := h; rfl) | (obtain ⟨_, _, _, _, _, rfl, _⟩ := h; rfl) | (obtain ⟨_, _, _, _, _, _, rfl, _⟩ := h; rfl) | (obtain ⟨_, _, _, _, _, _, _, rfl, _⟩ := h; rfl) | (obtain ⟨_, _, _, _, _, _, _, _, rfl, _⟩ := h; rfl) | (obtain ⟨_, _, _, _, _, _, _, _, _, rfl, _⟩ := h; rfl) | (obtain ⟨_, _, _, _, _, _, _, _, _, _, rfl, _⟩ := h; rfl) | (obtain ⟨_, _, _, _, _, _, _, _, _, _, _, rfl, _⟩ := h; rfl) | (obtain ⟨_, _, _, _, _, _, _, _, _, _, _, _, rfl, _⟩ := h; rfl) | (obtain ⟨_, _, _, _, _, _, _, _, _, _, _, _, _, rfl, _⟩ := h; rfl)

  · obtain ⟨a, l, n, t, rfl, ⟨p, rfl, hp⟩, k⟩ := h
    have e : isRanked l n t = ((decide ((n : Int) ≤ ((l.length : Nat) : Int)) && decide (((l.length : Nat) : Int) ≤ 12)) && allLe l t) := by
      unfold isRanked
      congr 1
      rw [Bool.eq_iff_iff]
      simp
      omega
    rw [e] at k
    repeat wtm_at "lwst"
    refine st_len hp ?_
    repeat wtm_at "lwst"
    rw [nzV_len]
    refine ⟨_, _, _, rfl, ?_⟩
    repeat wtm_at "lwst"
    refine cond_2 (fun c => ?_) (fun c => ?_)
    · rw [c, Bool.true_and] at k
      repeat wtm_at "lwst"
      refine ⟨_, _, _, _, rfl, ⟨p, rfl, hp⟩, ?_⟩
      rw [all_nz]
      exact k
    · rw [c, Bool.false_and] at k
      exact k
end
end Lw

namespace Lw
open PySem PySem.Spec PyProof.Rows L2
local macro_rules | `(tactic| wtm_at "lwsame") => `(tactic| first
  | assumption | exact Same.refl _ | (refine Same.trans (by assumption) ?_; wtm_at "lwsame"))
local macro_rules | `(tactic| wtm_at "lwup") => `(tactic| first
  | assumption
  | ((with_reducible show SqT _ _ _ _); first | (refine sqT_up ?_ (by assumption); wtm_at "lwsame") | (refine KT.sq ?_ _; assumption) | (refine SqT.of ?_; wtm_at "lwup"))
  | ((with_reducible show SqL _ _ _ _); first | (refine sqL_up ?_ (by assumption); wtm_at "lwsame") | (refine SqL.of ?_; wtm_at "lwup"))
  | ((with_reducible show _ = some _); refine (show Same _ _ by wtm_at "lwsame") _ _ (by assumption))
  | ((with_reducible show Fq _ _ _ _); refine Fq.up ?_ (by assumption); wtm_at "lwsame")
  | ((with_reducible show Fs _ _ _ _); refine Fs.up ?_ (by assumption); wtm_at "lwsame")
  | ((with_reducible show Is _ _ _ _); refine Is.up ?_ (by assumption); wtm_at "lwsame")
  | ((with_reducible show Ns _ _ _ _); refine Ns.up ?_ (by assumption); wtm_at "lwsame")
  | ((with_reducible show Eq4 _ _ _ _); refine Eq4.up ?_ (by assumption); wtm_at "lwsame")
  | ((with_reducible show Evs _ _ _ _); refine Evs.up ?_ (by assumption); wtm_at "lwsame"))
local macro_rules | `(tactic| wtm_at "lwst2") => `(tactic| first
  | (with_reducible refine st_drop ?_)
  | (with_reducible refine st_par ?_)
  | (with_reducible refine st_par2 ?_)
  | (with_reducible refine st_un ?_)
  | (with_reducible refine st_rU ?_)
  | (with_reducible refine st_B ?_)
  | (with_reducible refine st_not ?_)
  | (with_reducible refine st_and ?_)
  | (with_reducible refine st_or ?_)
  | (with_reducible refine st_andV ?_)
  | (with_reducible refine st_orV ?_)
  | (with_reducible refine st_isB2 ?_)
  | (with_reducible refine st_ifE ?_)
  | (with_reducible refine st_yes ?_)
  | (with_reducible refine st_forL ?_)
  | (with_reducible refine st_forR ?_)
  | (with_reducible refine st_lcL ?_)
  | (with_reducible refine st_lcR ?_)
  | (with_reducible refine st_lcZ ?_)
  | (with_reducible refine st_bm ?_)
  | (with_reducible refine st_sfld ?_)
  | (with_reducible refine st_gsub ?_)
  | (with_reducible refine st_meth ?_)
  | (with_reducible refine st_sl ?_)
  | (with_reducible refine st_nopart ?_)
  | (with_reducible refine st_part ?_)
  | (with_reducible refine st_isI ?_)
  | (with_reducible refine st_rev ?_)
  | (with_reducible refine st_ckw ?_)
  | (with_reducible refine st_abs ?_)
  | ((with_reducible refine st_eq ?hh ?_); (case hh => exact rfl))
  | ((with_reducible refine st_ne ?hh ?_); (case hh => exact rfl))
  | ((with_reducible refine st_ixT (v := ?vv) (xs := ?xx) ?hh ?hi ?_); (case hh => wtm_at "lwup"); (case hi => exact rfl))
  | ((with_reducible refine st_gtup (xs := ?xx) ?hh ?hi ?_); (case hh => wtm_at "lwup"); (case hi => exact rfl)))
local macro_rules | `(tactic| wtm_at "lwst") => `(tactic| first
  | (with_reducible refine st_cons ?_)
  | ((with_reducible refine st_var (v := ?vv) ?hh ?_); (case hh => exact rfl))
  | (with_reducible refine st_nil ?_)
  | (with_reducible refine st_call ?_)
  | (with_reducible refine st_gname ?_)
  | (with_reducible refine st_c ?_)
  | (with_reducible refine st_seq ?_)
  | (with_reducible refine st_op ?_)
  | (with_reducible refine st_ret ?_)
  | (with_reducible refine st_lst ?_)
  | (with_reducible refine st_gcons ?_)
  | (with_reducible refine st_asg ?_)
  | (with_reducible refine st_isB ?_)
  | (with_reducible refine st_ifS ?_)
  | (with_reducible refine st_nx0 ?_)
  | (with_reducible refine st_test ?_)
  | (with_reducible refine st_fld ?_)
  | (with_reducible refine st_nx ?_)
  | (with_reducible refine st_rI0 ?_)
  | (with_reducible refine st_callB ?_)
  | (with_reducible refine st_gnil ?_)
  | (with_reducible refine st_tup ?_)
  | wtm_at "lwst2")

theorem map_ix {α β : Type} {l : List α} {f : α → β} {i : Nat} {x : α} (h : l[i]? = some x) : (l.map f)[i]? = some (f x) := by
  rw [List.getElem?_map, h]
  rfl
theorem sum_le_nat {l : List Nat} {B : Nat} (h : ∀ x ∈ l, x ≤ B) : l.sum ≤ l.length * B := by
  induction l with
  | nil => simp
  | cons x r ih =>
    have h1 := h x List.mem_cons_self
    have h2 := ih fun y hy => h y (List.mem_cons_of_mem _ hy)
    rw [List.sum_cons, List.length_cons, Nat.add_mul, Nat.one_mul]
    omega
theorem wts_small {w : List Nat} {n : Nat} (h : ∀ x ∈ w, x ≤ 1000) (hl : w.length = n) (hn : n ≤ 6) : w.sum.log2 < 9000 := by
  have h1 := sum_le_nat h
  rw [hl] at h1
  have h2 : w.sum ≤ 6000 := Nat.le_trans h1 (by omega)
  exact Nat.lt_of_le_of_lt (log2_mono h2) (by decide)
/-- two quotients in a tuple -/
def F2 (K : PySem.W.Frag) (H : Hp) (v : V) (x y : Rw) : Prop := ∃ p a b, v = .ref p ∧ SqT K H p [a, b] ∧ Fq K H a x ∧ Fq K H b y
section
variable {P : Program} {w : World} {K : PySem.W.Frag} {mg : Str → Option Value} {base : Heap} {az an aw d1 d2 d3 C : Addr}

/-- a def that leaves the heap but for what is new -/
abbrev Ret1 (K : PySem.W.Frag) (H : Hp) (Q : VK) (r : Rw) : Prop := ∀ v H', Same H H' → Fq K H' v r → Q v H'
def sp_probability (K : PySem.W.Frag) (C : Addr) : Sp := fun vs H Q _ => ∃ (L : Lay) (m : M) (k c a : Nat), vs = [.ref L.a, .int (k : Int), .int (c : Int), .int (a : Int)] ∧ St K C H L m ∧ Wf m ∧ k < 3 ∧ c < m.nc ∧ a < m.na ∧ Ret1 K H Q (chance m k c a)
abbrev s_probability : Stmt := top 48
theorem sc_probability : FnScope ["study", "policy", "context", "action", "weights"] ["study", "policy", "context", "action"] (defScope s_probability) := ⟨rfl, rfl, rfl, by decide +kernel, rfl, by decide +kernel, by decide +kernel⟩
theorem ok_probability (T : Tx K mg az an aw d1 d2 d3 C) (h : Has K mg "probability" s_probability ["study", "policy", "context", "action"]) (O_quotient : Ok P w K mg base "quotient" 2 ["above", "below"] (sp_quotient K C)) :
    Ok P w K mg base "probability" 3 ["study", "policy", "context", "action"] (sp_probability K C) := by
  refine ok_of h sc_probability (fun vs H Q E h => ?_) (fun f cdv A outer s H vs Q E hr h => ⟨_, (pss_cons (ps_set (i := 4) sc_probability.nd rfl (Or.inl rfl) (pe_ix (ix_listK (K := K) rfl) (pe_ix (ix_listK (K := K) rfl) (pe_fldK (K := K) rfl (pv 0) rfl) (pv 1) (fun _ _ => rfl)) (pv 2) (fun _ _ => rfl)))
      (pss_one (ps_ret (pe_go O_quotient (hr.mono (by decide)) (by rfl) (pa_cons (pe_ix (ix_listK (K := K) rfl) (pv 4) (pv 3) (fun _ _ => rfl)) (pa_cons (pe_callB (cr_sumK (K := K) rfl rfl) (by rfl) T.b_sum (by decide +kernel) (pa_cons (pv 4) pa_nil)) pa_nil)))))), ?_⟩)
  · first | (obtain ⟨_, rfl, _⟩ := h; rfl) | (obtain ⟨_, _, rfl, _⟩ := h; rfl) | (obtain ⟨_, _, _, rfl, _⟩ := h; rfl) | (obtain ⟨_, _, _, _, rfl, _⟩ := h; rfl) | (obtain ⟨_, _, _, _, _, rfl, _⟩ := h; rfl) | (obtain ⟨_, _, _, _, _, _, rfl, _⟩ := h; rfl) | (obtain ⟨_, _, _, _, _, _, _, rfl, _⟩ := h; rfl) | (obtain ⟨_, _, _, _, _, _, _, _, rfl, _⟩ := h; rfl) | (obtain ⟨_, _, _, _, _, _, _, _, _, rfl, _⟩ := h; rfl) | (obtain ⟨_, _, _, _, _, _, _, _, _, _, rfl, _⟩ := h; rfl) | (obtain ⟨_, _, _, _, _, _, _, _, _, _, _, rfl, _⟩ := h; rfl) | (obtain ⟨_, _, _, _, _, _, _, _, _, _, _, _, rfl, _⟩ := h; rfl) | (obtain ⟨_, _, _, _, _, _, _, _, _, _, _, _, _, rfl, _⟩ := h; rfl)

  · obtain ⟨L, m, k, c, a, rfl, S, W, hk, hc, ha, q⟩ := h
    obtain ⟨p, r, xs, hp, hx, hv, hr', hl, h1000, h0⟩ := sta_row S W hk hc
    repeat wtm_at "lwst"
    refine fl_policies T S ?_
    repeat wtm_at "lwst"
    refine st_ixL (SqL.of S.po) (atI_nat (map_ix hp)) ?_
    repeat wtm_at "lwst"
    refine st_ixL (SqL.of hx) (atI_nat hv) ?_
    repeat wtm_at "lwst"
    refine st_ixL (SqL.of hr') (atI_nat (nz_get (by omega))) ?_
    repeat wtm_at "lwst"
    refine st_sum (SqL.of hr') ?_
    repeat wtm_at "lwst"
    rw [nz_sum]
    exact mk_go h0 (wts_small h1000 hl (by have := W.na5; omega)) q
def sp_preferred (K : PySem.W.Frag) (C : Addr) : Sp := fun vs H Q _ => ∃ (L : Lay) (m : M) (k c : Nat), vs = [.ref L.a, .int (k : Int), .int (c : Int)] ∧ St K C H L m ∧ Wf m ∧ k < 3 ∧ c < m.nc ∧ Q (.int ((best (wts m k c) : Nat) : Int)) H
def bestF (w : List Nat) (b a : Nat) : Nat := if w.getD b 0 < w.getD a 0 then a else b
theorem best_lt (w : List Nat) (h : 0 < w.length) : ∀ i, i ≤ w.length → (List.range i).foldl (bestF w) 0 < w.length
  | 0, _ => h
  | i + 1, hi => by
    rw [List.range_succ, List.foldl_append]
    show bestF w _ i < _
    unfold bestF
    split
    · omega
    · exact best_lt w h i (by omega)
abbrev s_preferred : Stmt := top 49
theorem sc_preferred : FnScope ["study", "policy", "context", "weights", "best", "action"] ["study", "policy", "context"] (defScope s_preferred) := ⟨rfl, rfl, rfl, by decide +kernel, rfl, by decide +kernel, by decide +kernel⟩
theorem ok_preferred (T : Tx K mg az an aw d1 d2 d3 C) (h : Has K mg "preferred" s_preferred ["study", "policy", "context"]) :
    Ok P w K mg base "preferred" 1 ["study", "policy", "context"] (sp_preferred K C) := by
  refine ok_of h sc_preferred (fun vs H Q E h => ?_) (fun f cdv A outer s H vs Q E hr h => ⟨_, (pss_cons (ps_set (i := 3) sc_preferred.nd rfl (Or.inl rfl) (pe_ix (ix_listK (K := K) rfl) (pe_ix (ix_listK (K := K) rfl) (pe_fldK (K := K) rfl (pv 0) rfl) (pv 1) (fun _ _ => rfl)) (pv 2) (fun _ _ => rfl)))
      (pss_cons (ps_set (i := 4) sc_preferred.nd rfl (Or.inl rfl) pe_int)
      (pss_cons (ps_for PassesOwn.never rfl (pi_range1 (by rfl) T.b_range (pa_cons (pe_callB (cb_lenK (K := K) rfl) (by rfl) T.b_len PySem.boot_len (pa_cons (pv 3) pa_nil)) pa_nil)) (pg_name (i := 5) sc_preferred.nd rfl (Or.inl rfl)) (pss_one (ps_if (pt_cmpR op_gt (pe_ix (ix_listK (K := K) rfl) (pv 3) (pv 5) (fun _ _ => rfl)) (pe_ix (ix_listK (K := K) rfl) (pv 3) (pv 4) (fun _ _ => rfl)) (nomark _)) (pss_one (ps_set (i := 4) sc_preferred.nd rfl (Or.inl rfl) (pv 5))) pss_nil)))
      (pss_one (ps_ret (pv 4)))))), ?_⟩)
  · first | (obtain ⟨_, rfl, _⟩ := h; rfl) | (obtain ⟨_, _, rfl, _⟩ := h; rfl) | (obtain ⟨_, _, _, rfl, _⟩ := h; rfl) | (obtain ⟨_, _, _, _, rfl, _⟩ := h; rfl) | (obtain ⟨_, _, _, _, _, rfl, _⟩ := h; rfl) | (obtain ⟨_, _, _, _, _, _, rfl, _⟩ := h; rfl) | (obtain ⟨_, _, _, _, _, _, _, rfl, _⟩ := h; rfl) | (obtain ⟨_, _, _, _, _, _, _, _, rfl, _⟩ := h; rfl) | (obtain ⟨_, _, _, _, _, _, _, _, _, rfl, _⟩ := h; rfl) | (obtain ⟨_, _, _, _, _, _, _, _, _, _, rfl, _⟩ := h; rfl) | (obtain ⟨_, _, _, _, _, _, _, _, _, _, _, rfl, _⟩ := h; rfl) | (obtain ⟨_, _, _, _, _, _, _, _, _, _, _, _, rfl, _⟩ := h; rfl) | (obtain ⟨_, _, _, _, _, _, _, _, _, _, _, _, _, rfl, _⟩ := h; rfl)

  · obtain ⟨L, m, k, c, rfl, S, W, hk, hc, q⟩ := h
    obtain ⟨p, r, xs, hp, hx, hv, hr', hl, h1000, h0⟩ := sta_row S W hk hc
    have w0 : 0 < (wts m k c).length := by have := W.na1; omega
    repeat wtm_at "lwst"
    refine fl_policies T S ?_
    repeat wtm_at "lwst"
    refine st_ixL (SqL.of S.po) (atI_nat (map_ix hp)) ?_
    repeat wtm_at "lwst"
    refine st_ixL (SqL.of hx) (atI_nat hv) ?_
    repeat wtm_at "lwst"
    refine st_len (SqL.of hr') ?_
    repeat wtm_at "lwst"
    rw [nzV_len]
    refine go_forR (H0 := H) (by have := W.na5; omega) (Same.refl H) (fun i σ H1 => H1 = H ∧ ∃ o, σ = [some (.ref L.a), some (.int (k : Int)), some (.int (c : Int)), some (.ref r), some (.int (((List.range i).foldl (bestF (wts m k c)) 0 : Nat) : Int)), o]) ⟨rfl, none, rfl⟩ ?_ ?_
    · rintro i σ H1 hi e ⟨rfl, o, rfl⟩
      repeat wtm_at "lwst"
      refine st_ixL (SqL.of hr') (atI_nat (nz_get hi)) ?_
      repeat wtm_at "lwst"
      refine st_ixL (SqL.of hr') (atI_nat (nz_get (best_lt _ w0 i (by omega)))) ?_
      repeat wtm_at "lwst"
      have en : (List.range (i + 1)).foldl (bestF (wts m k c)) 0 = bestF (wts m k c) ((List.range i).foldl (bestF (wts m k c)) 0) i := by
        rw [List.range_succ, List.foldl_append]
        rfl
      refine cond_2 (fun cc => ?_) (fun cc => ?_)
      · repeat wtm_at "lwst"
        refine ⟨Same.refl _, rfl, some (.int (i : Int)), ?_⟩
        rw [en, bestF, if_pos (by have := of_decide_eq_true cc; omega)]
        rfl
      · repeat wtm_at "lwst"
        refine ⟨Same.refl _, rfl, some (.int (i : Int)), ?_⟩
        rw [en, bestF, if_neg (by have := of_decide_eq_false cc; omega)]
        rfl
    · rintro σ H1 e ⟨rfl, o, rfl⟩
      repeat wtm_at "lwst"
      exact q
def sp_importance (K : PySem.W.Frag) (C : Addr) : Sp := fun vs H Q _ => ∃ (L : Lay) (m : M) (k : Nat) (u : V) (e : Ev), vs = [.ref L.a, .int (k : Int), u] ∧ St K C H L m ∧ Wf m ∧ k < 3 ∧ Eq4 K H u e ∧ EvOk m e ∧ Ret1 K H Q (imp m k e)
abbrev s_importance : Stmt := top 58
theorem sc_importance : FnScope ["study", "policy", "event", "context", "action", "reward", "propensity"] ["study", "policy", "event"] (defScope s_importance) := ⟨rfl, rfl, rfl, by decide +kernel, rfl, by decide +kernel, by decide +kernel⟩
theorem ok_importance (T : Tx K mg az an aw d1 d2 d3 C) (h : Has K mg "importance" s_importance ["study", "policy", "event"]) (O_over : Ok P w K mg base "over" 3 ["one", "other"] (sp_over K C)) (O_probability : Ok P w K mg base "probability" 3 ["study", "policy", "context", "action"] (sp_probability K C)) :
    Ok P w K mg base "importance" 4 ["study", "policy", "event"] (sp_importance K C) := by
  refine ok_of h sc_importance (fun vs H Q E h => ?_) (fun f cdv A outer s H vs Q E hr h => ⟨_, (pss_cons (ps_asg (pv 2) (pg_tupK (K := K) (n := 4) rfl rfl (pgs_cons (pg_name (i := 3) sc_importance.nd rfl (Or.inl rfl)) (pgs_cons (pg_name (i := 4) sc_importance.nd rfl (Or.inl rfl)) (pgs_cons (pg_name (i := 5) sc_importance.nd rfl (Or.inl rfl)) (pgs_cons (pg_name (i := 6) sc_importance.nd rfl (Or.inl rfl)) pgs_nil))))))
      (pss_one (ps_ret (pe_go O_over (hr.mono (by decide)) (by rfl) (pa_cons (pe_go O_probability (hr.mono (by decide)) (by rfl) (pa_cons (pv 0) (pa_cons (pv 1) (pa_cons (pv 3) (pa_cons (pv 4) pa_nil))))) (pa_cons (pv 6) pa_nil)))))), ?_⟩)
  · first | (obtain ⟨_, rfl, _⟩ := h; rfl) | (obtain ⟨_, _, rfl, _⟩ := h; rfl) | (obtain ⟨_, _, _, rfl, _⟩ := h; rfl) | (obtain ⟨_, _, _, _, rfl, _⟩ := h; rfl) | (obtain ⟨_, _, _, _, _, rfl, _⟩ := h; rfl) | (obtain ⟨_, _, _, _, _, _, rfl, _⟩ := h; rfl) | (obtain ⟨_, _, _, _, _, _, _, rfl, _⟩ := h; rfl) | (obtain ⟨_, _, _, _, _, _, _, _, rfl, _⟩ := h; rfl) | (obtain ⟨_, _, _, _, _, _, _, _, _, rfl, _⟩ := h; rfl) | (obtain ⟨_, _, _, _, _, _, _, _, _, _, rfl, _⟩ := h; rfl) | (obtain ⟨_, _, _, _, _, _, _, _, _, _, _, rfl, _⟩ := h; rfl) | (obtain ⟨_, _, _, _, _, _, _, _, _, _, _, _, rfl, _⟩ := h; rfl) | (obtain ⟨_, _, _, _, _, _, _, _, _, _, _, _, _, rfl, _⟩ := h; rfl)

  · obtain ⟨L, m, k, u, e, rfl, S, W, hk, ⟨p, z, rfl, hp, hz⟩, he, q⟩ := h
    repeat wtm_at "lwst"
    refine ⟨L, m, k, e.c, e.a, rfl, S, W, hk, he.1, he.2.1, fun v H1 e1 hv => ?_⟩
    repeat wtm_at "lwst"
    exact ⟨v, z, _, e.p, rfl, hv, hz.up e1, bd_chance W hk he.1 he.2.1, bd_ep he, he.2.2.2.1, fun y H2 e2 hy => q y H2 (e1.trans e2) hy⟩
theorem evs_ok (W : Wf m) {e : Ev} (h : e ∈ m.ev) : EvOk m e := W.ev e h
theorem St.evs {K : PySem.W.Frag} {C : Addr} {H : Hp} {L : Lay} {m : M} (S : St K C H L m) : ∃ xs, SqL K H L.ev xs ∧ All2 (Eq4 K H) xs m.ev :=
  let ⟨xs, a, b⟩ := S.ev
  ⟨xs, SqL.of a, b⟩
/-- the new list's items as quotients -/
theorem fs_of {K : PySem.W.Frag} {H : Hp} {p : Addr} {ws : List V} {rs : List Rw} (h : H p = some (.lst ws)) (a : All2 (RF K p H) ws rs) : Fs K H (.ref p) rs := ⟨p, ws, rfl, SqL.of h, a⟩
abbrev RetL (K : PySem.W.Frag) (H : Hp) (Q : VK) (rs : List Rw) : Prop := ∀ v H', Same H H' → Fs K H' v rs → Q v H'
theorem map_len {α β : Type} {R : α → β → Prop} {γ : Type} {l : List α} {m : List β} {f : β → γ} (h : All2 R l m) : l.length = (m.map f).length := by
  rw [List.length_map]
  exact h.len
theorem map_at {β γ : Type} {m : List β} {f : β → γ} {i : Nat} {z : γ} {b : β} (h : (m.map f)[i]? = some z) (hb : m[i]? = some b) : z = f b := by
  rw [List.getElem?_map, hb] at h
  exact (Option.some.inj h).symm
theorem ev_len {K : PySem.W.Frag} {H : Hp} {xs : List V} {m : M} (W : Wf m) (h : All2 (Eq4 K H) xs m.ev) : xs.length ≤ 100000 := by
  rw [h.len]
  have := W.ev40
  omega
def sp_importances (K : PySem.W.Frag) (C : Addr) : Sp := fun vs H Q _ => ∃ (L : Lay) (m : M) (k : Nat), vs = [.ref L.a, .int (k : Int)] ∧ St K C H L m ∧ Wf m ∧ k < 3 ∧ RetL K H Q (imps m k)
abbrev s_importances : Stmt := top 59
theorem sc_importances : FnScope ["study", "policy", "event"] ["study", "policy"] (defScope s_importances) := ⟨rfl, rfl, rfl, by decide +kernel, rfl, by decide +kernel, by decide +kernel⟩
theorem ok_importances (T : Tx K mg az an aw d1 d2 d3 C) (h : Has K mg "importances" s_importances ["study", "policy"]) (O_importance : Ok P w K mg base "importance" 4 ["study", "policy", "event"] (sp_importance K C)) :
    Ok P w K mg base "importances" 5 ["study", "policy"] (sp_importances K C) := by
  refine ok_of h sc_importances (fun vs H Q E h => ?_) (fun f cdv A outer s H vs Q E hr h => ⟨_, (pss_one (ps_ret (pe_lc (own := [("event", 2)]) (by rfl) sc_importances.nd (pi_list (pe_fldK (K := K) rfl (pv 0) rfl)) (blkOk_by (own := [("event", 2)]) (N := ["study", "policy", "event"]) (sc := defScope s_importances) (by decide +kernel)) (fun _ _ _ _ _ => (pg_name (i := 2) sc_importances.nd rfl (Or.inl rfl))) (fun _ _ _ _ _ => pts_nil) (fun _ _ _ _ _ => (pe_go O_importance (hr.mono (by decide)) (by rfl) (pa_cons (pv 0) (pa_cons (pv 1) (pa_cons (pv 2) pa_nil)))))))), ?_⟩)
  · first | (obtain ⟨_, rfl, _⟩ := h; rfl) | (obtain ⟨_, _, rfl, _⟩ := h; rfl) | (obtain ⟨_, _, _, rfl, _⟩ := h; rfl) | (obtain ⟨_, _, _, _, rfl, _⟩ := h; rfl) | (obtain ⟨_, _, _, _, _, rfl, _⟩ := h; rfl) | (obtain ⟨_, _, _, _, _, _, rfl, _⟩ := h; rfl) | (obtain ⟨_, _, _, _, _, _, _, rfl, _⟩ := h; rfl) | (obtain ⟨_, _, _, _, _, _, _, _, rfl, _⟩ := h; rfl) | (obtain ⟨_, _, _, _, _, _, _, _, _, rfl, _⟩ := h; rfl) | (obtain ⟨_, _, _, _, _, _, _, _, _, _, rfl, _⟩ := h; rfl) | (obtain ⟨_, _, _, _, _, _, _, _, _, _, _, rfl, _⟩ := h; rfl) | (obtain ⟨_, _, _, _, _, _, _, _, _, _, _, _, rfl, _⟩ := h; rfl) | (obtain ⟨_, _, _, _, _, _, _, _, _, _, _, _, _, rfl, _⟩ := h; rfl)

  · obtain ⟨L, m, k, rfl, S, W, hk, q⟩ := h
    obtain ⟨xs, hx, hxs⟩ := S.evs
    repeat wtm_at "lwst"
    refine fl_events T S ?_
    repeat wtm_at "lwst"
    refine go_lcL (R := RF K) (zs := imps m k) (map_len hxs) (ev_len W hxs) (Same.refl H) hx RF.up RF.mu (fun D i x z H1 hi hz hD e ha Q' kq => ?_) (fun p H2 ws hp e h2 a => q _ _ e (fs_of h2 a))
    obtain ⟨ev, hev, hq⟩ := hxs.get hi
    obtain rfl := map_at hz hev
    repeat wtm_at "lwst"
    refine ⟨rfl, ?_⟩
    repeat wtm_at "lwst"
    exact ⟨L, m, k, x, ev, rfl, S.up e, W, hk, hq.up e, evs_ok W (mem_ix hev), fun y H4 e4 hy => kq y H4 e4 hy⟩
def sp_direct_value (K : PySem.W.Frag) (C : Addr) : Sp := fun vs H Q _ => ∃ (L : Lay) (m : M) (k c : Nat), vs = [.ref L.a, .int (k : Int), .int (c : Int)] ∧ St K C H L m ∧ Wf m ∧ k < 3 ∧ c < m.nc ∧ Ret1 K H Q (direct m k c)
theorem range_map_take {β : Type} (f : Nat → β) {n i : Nat} (h : i < n) : ((List.range n).map f).take (i + 1) = ((List.range n).map f).take i ++ [f i] := by
  rw [List.take_succ, List.getElem?_map, List.getElem?_range h]
  rfl
abbrev s_direct_value : Stmt := top 60
theorem sc_direct_value : FnScope ["study", "policy", "context", "found", "action"] ["study", "policy", "context"] (defScope s_direct_value) := ⟨rfl, rfl, rfl, by decide +kernel, rfl, by decide +kernel, by decide +kernel⟩
theorem ok_direct_value (T : Tx K mg az an aw d1 d2 d3 C) (h : Has K mg "direct_value" s_direct_value ["study", "policy", "context"]) (O_total : Ok P w K mg base "total" 4 ["quotients"] (sp_total K C)) (O_times : Ok P w K mg base "times" 3 ["one", "other"] (sp_times K C)) (O_probability : Ok P w K mg base "probability" 3 ["study", "policy", "context", "action"] (sp_probability K C)) :
    Ok P w K mg base "direct_value" 5 ["study", "policy", "context"] (sp_direct_value K C) := by
  refine ok_of h sc_direct_value (fun vs H Q E h => ?_) (fun f cdv A outer s H vs Q E hr h => ⟨_, (pss_cons (ps_set (i := 3) sc_direct_value.nd rfl (Or.inl rfl) (pe_lst pa_nil))
      (pss_cons (ps_for PassesOwn.never rfl (pi_range1 (by rfl) T.b_range (pa_cons (pe_fldK (K := K) rfl (pv 0) rfl) pa_nil)) (pg_name (i := 4) sc_direct_value.nd rfl (Or.inl rfl)) (pss_one (ps_expr (pe_bm PySem.F.plainAttrs_list PySem.F.slot_list_append PySem.F.type_list_append mt_append (pv 3) (pa_cons (pe_go O_times (hr.mono (by decide)) (by rfl) (pa_cons (pe_go O_probability (hr.mono (by decide)) (by rfl) (pa_cons (pv 0) (pa_cons (pv 1) (pa_cons (pv 2) (pa_cons (pv 4) pa_nil))))) (pa_cons (pe_ix (ix_listK (K := K) rfl) (pe_ix (ix_listK (K := K) rfl) (pe_fldK (K := K) rfl (pv 0) rfl) (pv 2) (fun _ _ => rfl)) (pv 4) (fun _ _ => rfl)) pa_nil))) pa_nil)))))
      (pss_one (ps_ret (pe_go O_total (hr.mono (by decide)) (by rfl) (pa_cons (pv 3) pa_nil)))))), ?_⟩)
  · first | (obtain ⟨_, rfl, _⟩ := h; rfl) | (obtain ⟨_, _, rfl, _⟩ := h; rfl) | (obtain ⟨_, _, _, rfl, _⟩ := h; rfl) | (obtain ⟨_, _, _, _, rfl, _⟩ := h; rfl) | (obtain ⟨_, _, _, _, _, rfl, _⟩ := h; rfl) | (obtain ⟨_, _, _, _, _, _, rfl, _⟩ := h; rfl) | (obtain ⟨_, _, _, _, _, _, _, rfl, _⟩ := h; rfl) | (obtain ⟨_, _, _, _, _, _, _, _, rfl, _⟩ := h; rfl) | (obtain ⟨_, _, _, _, _, _, _, _, _, rfl, _⟩ := h; rfl) | (obtain ⟨_, _, _, _, _, _, _, _, _, _, rfl, _⟩ := h; rfl) | (obtain ⟨_, _, _, _, _, _, _, _, _, _, _, rfl, _⟩ := h; rfl) | (obtain ⟨_, _, _, _, _, _, _, _, _, _, _, _, rfl, _⟩ := h; rfl) | (obtain ⟨_, _, _, _, _, _, _, _, _, _, _, _, _, rfl, _⟩ := h; rfl)

  · obtain ⟨L, m, k, c, rfl, S, W, hk, hc, q⟩ := h
    repeat wtm_at "lwst"
    refine new_l (by simp) fun l H1 hn e1 hl => ?_
    repeat wtm_at "lwst"
    refine fl_actions T (S.up e1) ?_
    repeat wtm_at "lwst"
    have na5 := W.na5
    refine go_forR (H0 := H) (n := m.na) (by omega) e1 (fun i σ H1 => ∃ acc o, H1 l = some (.lst acc) ∧ All2 (Fq K H1) acc (((List.range m.na).map fun a => chance m k c a * est m c a).take i) ∧ σ = [some (.ref L.a), some (.int (k : Int)), some (.int (c : Int)), some (.ref l), o]) ⟨[], none, hl, .nil, rfl⟩ ?_ ?_
    · rintro i σ H2 hi e2 ⟨acc, o, h2, ha, rfl⟩
      obtain ⟨qa, xs, ys, ve, hx, hv, hq, hu, hf⟩ := sta_est (S.up e2) W hc hi
      repeat wtm_at "lwst"
      refine bm_list (SqL.of h2) ?_
      repeat wtm_at "lwst"
      refine ⟨L, m, k, c, i, rfl, S.up e2, W, hk, hc, hi, fun v H3 e3 hv3 => ?_⟩
      repeat wtm_at "lwst"
      refine fl_model T ((S.up e2).up e3) ?_
      repeat wtm_at "lwst"
      refine st_ixL (SqL.of (e3 _ _ hx)) (atI_nat hv) ?_
      repeat wtm_at "lwst"
      refine st_ixL (SqL.of (e3 _ _ hq)) (atI_nat hu) ?_
      repeat wtm_at "lwst"
      refine ⟨v, ve, _, _, rfl, hv3, hf.up e3, bd_chance W hk hc hi, bd_est W hc hi, fun y H4 e4 hy => ?_⟩
      repeat wtm_at "lwst"
      have h4 := e4 _ _ (e3 _ _ h2)
      have al := ha.len
      rw [List.length_take] at al
      refine st_append h4 (by omega) ?_
      repeat wtm_at "lwst"
      refine ⟨same_mut ((e2.trans e3).trans e4) hn, acc ++ [y], some (.int (i : Int)), upd_same, ?_, rfl⟩
      rw [range_map_take _ hi]
      exact All2.app (ha.imp fun _ _ z => ((z.up e3).up e4).mut h4) (All2.one (hy.mut h4))
    · rintro σ H2 e2 ⟨acc, o, h2, ha, rfl⟩
      repeat wtm_at "lwst"
      have et : ((List.range m.na).map fun a => chance m k c a * est m c a).take m.na = (List.range m.na).map fun a => chance m k c a * est m c a := List.take_of_length_le (by simp)
      rw [et] at ha
      exact ⟨_, _, rfl, ⟨l, acc, rfl, SqL.of h2, ha⟩, ps_direct W hk hc, fun y H3 e3 hy => q y H3 (e2.trans e3) hy⟩
end
end Lw

namespace Lw
open PySem PySem.Spec PyProof.Rows L2
local macro_rules | `(tactic| wtm_at "lwsame") => `(tactic| first
  | assumption | exact Same.refl _ | (refine Same.trans (by assumption) ?_; wtm_at "lwsame"))
local macro_rules | `(tactic| wtm_at "lwup") => `(tactic| first
  | assumption
  | ((with_reducible show SqT _ _ _ _); first | (refine sqT_up ?_ (by assumption); wtm_at "lwsame") | (refine KT.sq ?_ _; assumption) | (refine SqT.of ?_; wtm_at "lwup"))
  | ((with_reducible show SqL _ _ _ _); first | (refine sqL_up ?_ (by assumption); wtm_at "lwsame") | (refine SqL.of ?_; wtm_at "lwup"))
  | ((with_reducible show _ = some _); refine (show Same _ _ by wtm_at "lwsame") _ _ (by assumption))
  | ((with_reducible show Fq _ _ _ _); refine Fq.up ?_ (by assumption); wtm_at "lwsame")
  | ((with_reducible show Fs _ _ _ _); refine Fs.up ?_ (by assumption); wtm_at "lwsame")
  | ((with_reducible show Is _ _ _ _); refine Is.up ?_ (by assumption); wtm_at "lwsame")
  | ((with_reducible show Ns _ _ _ _); refine Ns.up ?_ (by assumption); wtm_at "lwsame")
  | ((with_reducible show Eq4 _ _ _ _); refine Eq4.up ?_ (by assumption); wtm_at "lwsame")
  | ((with_reducible show Evs _ _ _ _); refine Evs.up ?_ (by assumption); wtm_at "lwsame"))
local macro_rules | `(tactic| wtm_at "lwst2") => `(tactic| first
  | (with_reducible refine st_drop ?_)
  | (with_reducible refine st_par ?_)
  | (with_reducible refine st_par2 ?_)
  | (with_reducible refine st_un ?_)
  | (with_reducible refine st_rU ?_)
  | (with_reducible refine st_B ?_)
  | (with_reducible refine st_not ?_)
  | (with_reducible refine st_and ?_)
  | (with_reducible refine st_or ?_)
  | (with_reducible refine st_andV ?_)
  | (with_reducible refine st_orV ?_)
  | (with_reducible refine st_isB2 ?_)
  | (with_reducible refine st_ifE ?_)
  | (with_reducible refine st_yes ?_)
  | (with_reducible refine st_forL ?_)
  | (with_reducible refine st_forR ?_)
  | (with_reducible refine st_lcL ?_)
  | (with_reducible refine st_lcR ?_)
  | (with_reducible refine st_lcZ ?_)
  | (with_reducible refine st_bm ?_)
  | (with_reducible refine st_sfld ?_)
  | (with_reducible refine st_gsub ?_)
  | (with_reducible refine st_meth ?_)
  | (with_reducible refine st_sl ?_)
  | (with_reducible refine st_nopart ?_)
  | (with_reducible refine st_part ?_)
  | (with_reducible refine st_isI ?_)
  | (with_reducible refine st_rev ?_)
  | (with_reducible refine st_ckw ?_)
  | (with_reducible refine st_abs ?_)
  | ((with_reducible refine st_eq ?hh ?_); (case hh => exact rfl))
  | ((with_reducible refine st_ne ?hh ?_); (case hh => exact rfl))
  | ((with_reducible refine st_ixT (v := ?vv) (xs := ?xx) ?hh ?hi ?_); (case hh => wtm_at "lwup"); (case hi => exact rfl))
  | ((with_reducible refine st_gtup (xs := ?xx) ?hh ?hi ?_); (case hh => wtm_at "lwup"); (case hi => exact rfl)))
local macro_rules | `(tactic| wtm_at "lwst") => `(tactic| first
  | (with_reducible refine st_cons ?_)
  | ((with_reducible refine st_var (v := ?vv) ?hh ?_); (case hh => exact rfl))
  | (with_reducible refine st_nil ?_)
  | (with_reducible refine st_call ?_)
  | (with_reducible refine st_gname ?_)
  | (with_reducible refine st_c ?_)
  | (with_reducible refine st_seq ?_)
  | (with_reducible refine st_op ?_)
  | (with_reducible refine st_ret ?_)
  | (with_reducible refine st_lst ?_)
  | (with_reducible refine st_gcons ?_)
  | (with_reducible refine st_asg ?_)
  | (with_reducible refine st_isB ?_)
  | (with_reducible refine st_ifS ?_)
  | (with_reducible refine st_nx0 ?_)
  | (with_reducible refine st_test ?_)
  | (with_reducible refine st_fld ?_)
  | (with_reducible refine st_nx ?_)
  | (with_reducible refine st_rI0 ?_)
  | (with_reducible refine st_callB ?_)
  | (with_reducible refine st_gnil ?_)
  | (with_reducible refine st_tup ?_)
  | wtm_at "lwst2")

section
variable {P : Program} {w : World} {K : PySem.W.Frag} {mg : Str → Option Value} {base : Heap} {az an aw d1 d2 d3 C : Addr}

theorem bd_clip {x y : Rw} (hx : Bd x) (hy : Bd y) : Bd (clip x y) := by
  unfold clip
  split
  · exact hx
  · exact hy
def sp_term (K : PySem.W.Frag) (C : Addr) : Sp := fun vs H Q _ => ∃ (L : Lay) (m : M) (k kind limit : Nat) (u : V) (e : Ev), vs = [.ref L.a, .int (k : Int), .int (kind : Int), .int (limit : Int), u] ∧ St K C H L m ∧ Wf m ∧ k < 3 ∧ limit ≤ 100000 ∧ Eq4 K H u e ∧ EvOk m e ∧ Ret1 K H Q (term m k kind limit e)
theorem vint_ne {a : Nat} {b : Int} (h : decide (V.int (a : Int) = V.int b) = false) : (a : Int) ≠ b := fun z => of_decide_eq_false h (by rw [z])
theorem vint_eq {a : Nat} {b : Int} (h : decide (V.int (a : Int) = V.int b) = true) : (a : Int) = b := V.int.inj (of_decide_eq_true h)
abbrev s_term : Stmt := top 61
theorem sc_term : FnScope ["study", "policy", "kind", "limit", "event", "context", "action", "reward", "propensity", "factor", "rest"] ["study", "policy", "kind", "limit", "event"] (defScope s_term) := ⟨rfl, rfl, rfl, by decide +kernel, rfl, by decide +kernel, by decide +kernel⟩
theorem ok_term (T : Tx K mg az an aw d1 d2 d3 C) (h : Has K mg "term" s_term ["study", "policy", "kind", "limit", "event"]) (O_importance : Ok P w K mg base "importance" 4 ["study", "policy", "event"] (sp_importance K C)) (O_minus : Ok P w K mg base "minus" 3 ["one", "other"] (sp_minus K C)) (O_plus : Ok P w K mg base "plus" 3 ["one", "other"] (sp_plus K C)) (O_direct_value : Ok P w K mg base "direct_value" 5 ["study", "policy", "context"] (sp_direct_value K C)) (O_times : Ok P w K mg base "times" 3 ["one", "other"] (sp_times K C)) (O_whole : Ok P w K mg base "whole" 1 ["number"] (sp_whole K C)) (O_smaller : Ok P w K mg base "smaller" 2 ["one", "other"] (sp_smaller K C)) (O_quotient : Ok P w K mg base "quotient" 2 ["above", "below"] (sp_quotient K C)) :
    Ok P w K mg base "term" 6 ["study", "policy", "kind", "limit", "event"] (sp_term K C) := by
  refine ok_of h sc_term (fun vs H Q E h => ?_) (fun f cdv A outer s H vs Q E hr h => ⟨_, (pss_cons (ps_asg (pv 4) (pg_tupK (K := K) (n := 4) rfl rfl (pgs_cons (pg_name (i := 5) sc_term.nd rfl (Or.inl rfl)) (pgs_cons (pg_name (i := 6) sc_term.nd rfl (Or.inl rfl)) (pgs_cons (pg_name (i := 7) sc_term.nd rfl (Or.inl rfl)) (pgs_cons (pg_name (i := 8) sc_term.nd rfl (Or.inl rfl)) pgs_nil))))))
      (pss_cons (ps_if (pt_cmpR op_eq (pv 2) (pe_globI (by rfl) T.m_DIRECT) (nomark _)) (pss_one (ps_ret (pe_go O_direct_value (hr.mono (by decide)) (by rfl) (pa_cons (pv 0) (pa_cons (pv 1) (pa_cons (pv 5) pa_nil)))))) pss_nil)
      (pss_cons (ps_set (i := 9) sc_term.nd rfl (Or.inl rfl) (pe_go O_importance (hr.mono (by decide)) (by rfl) (pa_cons (pv 0) (pa_cons (pv 1) (pa_cons (pv 4) pa_nil)))))
      (pss_cons (ps_if (pt_cmpR op_eq (pv 2) (pe_globI (by rfl) T.m_INVERSE) (nomark _)) (pss_one (ps_ret (pe_go O_times (hr.mono (by decide)) (by rfl) (pa_cons (pv 9) (pa_cons (pe_go O_whole (hr.mono (by decide)) (by rfl) (pa_cons (pv 7) pa_nil)) pa_nil))))) pss_nil)
      (pss_cons (ps_if (pt_cmpR op_eq (pv 2) (pe_globI (by rfl) T.m_CLIPPED) (nomark _)) (pss_one (ps_ret (pe_go O_times (hr.mono (by decide)) (by rfl) (pa_cons (pe_go O_smaller (hr.mono (by decide)) (by rfl) (pa_cons (pv 9) (pa_cons (pe_go O_quotient (hr.mono (by decide)) (by rfl) (pa_cons (pv 3) (pa_cons pe_int pa_nil))) pa_nil))) (pa_cons (pe_go O_whole (hr.mono (by decide)) (by rfl) (pa_cons (pv 7) pa_nil)) pa_nil))))) pss_nil)
      (pss_cons (ps_set (i := 10) sc_term.nd rfl (Or.inl rfl) (pe_go O_minus (hr.mono (by decide)) (by rfl) (pa_cons (pe_go O_whole (hr.mono (by decide)) (by rfl) (pa_cons (pv 7) pa_nil)) (pa_cons (pe_ix (ix_listK (K := K) rfl) (pe_ix (ix_listK (K := K) rfl) (pe_fldK (K := K) rfl (pv 0) rfl) (pv 5) (fun _ _ => rfl)) (pv 6) (fun _ _ => rfl)) pa_nil))))
      (pss_one (ps_ret (pe_go O_plus (hr.mono (by decide)) (by rfl) (pa_cons (pe_go O_direct_value (hr.mono (by decide)) (by rfl) (pa_cons (pv 0) (pa_cons (pv 1) (pa_cons (pv 5) pa_nil)))) (pa_cons (pe_go O_times (hr.mono (by decide)) (by rfl) (pa_cons (pv 9) (pa_cons (pv 10) pa_nil))) pa_nil))))))))))), ?_⟩)
  · first | (obtain ⟨_, rfl, _⟩ := h; rfl) | (obtain ⟨_, _, rfl, _⟩ := h; rfl) | (obtain ⟨_, _, _, rfl, _⟩ := h; rfl) | (obtain ⟨_, _, _, _, rfl, _⟩ := h; rfl) | (obtain ⟨_, _, _, _, _, rfl, _⟩ := h; rfl) | (obtain ⟨_, _, _, _, _, _, rfl, _⟩ := h; rfl) | (obtain ⟨_, _, _, _, _, _, _, rfl, _⟩ := h; rfl) | (obtain ⟨_, _, _, _, _, _, _, _, rfl, _⟩ := h; rfl) | (obtain ⟨_, _, _, _, _, _, _, _, _, rfl, _⟩ := h; rfl) | (obtain ⟨_, _, _, _, _, _, _, _, _, _, rfl, _⟩ := h; rfl) | (obtain ⟨_, _, _, _, _, _, _, _, _, _, _, rfl, _⟩ := h; rfl) | (obtain ⟨_, _, _, _, _, _, _, _, _, _, _, _, rfl, _⟩ := h; rfl) | (obtain ⟨_, _, _, _, _, _, _, _, _, _, _, _, _, rfl, _⟩ := h; rfl)

  · obtain ⟨L, m, k, kind, limit, u, e, rfl, S, W, hk, hl, ⟨p, z, rfl, hp, hz⟩, he, q⟩ := h
    have br : Bd ((e.r : Nat) : Rw) := bd_nat (by have := he.2.2.1; omega)
    repeat wtm_at "lwst"
    refine cond_2 (fun c => ?_) (fun c => ?_)
    · repeat wtm_at "lwst"
      refine ⟨L, m, k, e.c, rfl, S, W, hk, he.1, fun v H1 e1 hv => q v H1 e1 ?_⟩
      unfold term
      rw [if_pos (by have := vint_eq c; omega)]
      exact hv
    have k0 : kind ≠ 0 := by have := vint_ne c; omega
    repeat wtm_at "lwst"
    refine ⟨L, m, k, .ref p, e, rfl, S, W, hk, ⟨p, z, rfl, hp, hz⟩, he, fun f H1 e1 hf => ?_⟩
    repeat wtm_at "lwst"
    refine cond_2 (fun c => ?_) (fun c => ?_)
    · repeat wtm_at "lwst"
      refine ⟨_, rfl, fun v H2 e2 hv => ?_⟩
      repeat wtm_at "lwst"
      refine ⟨f, v, _, ((e.r : Nat) : Rw), rfl, hf.up e2, hv, bd_imp W hk he, br, fun y H3 e3 hy => q y H3 ((e1.trans e2).trans e3) ?_⟩
      unfold term
      rw [if_neg k0, if_pos (by have := vint_eq c; omega)]
      exact hy
    have k1 : kind ≠ 1 := by have := vint_ne c; omega
    repeat wtm_at "lwst"
    refine cond_2 (fun c => ?_) (fun c => ?_)
    · repeat wtm_at "lwst"
      refine mk_go (d := 100) (by decide) (by decide) fun v H2 e2 hv => ?_
      repeat wtm_at "lwst"
      refine ⟨f, v, _, lim limit, rfl, hf.up e2, hv, bd_imp W hk he, bd_lim hl, fun y hy => ?_⟩
      repeat wtm_at "lwst"
      refine ⟨_, rfl, fun w H3 e3 hw => ?_⟩
      repeat wtm_at "lwst"
      refine ⟨y, w, _, ((e.r : Nat) : Rw), rfl, hy.up e3, hw, bd_clip (bd_imp W hk he) (bd_lim hl), br, fun y H4 e4 hy => q y H4 (((e1.trans e2).trans e3).trans e4) ?_⟩
      unfold term
      rw [if_neg k0, if_neg k1, if_pos (by have := vint_eq c; omega)]
      exact hy
    have k2 : kind ≠ 2 := by have := vint_ne c; omega
    repeat wtm_at "lwst"
    refine ⟨_, rfl, fun v H2 e2 hv => ?_⟩
    have S2 := (S.up e1).up e2
    obtain ⟨qa, xs, ys, ve, hx, hvx, hq, hu, hfe⟩ := sta_est S2 W he.1 he.2.1
    repeat wtm_at "lwst"
    refine fl_model T S2 ?_
    repeat wtm_at "lwst"
    refine st_ixL (SqL.of hx) (atI_nat hvx) ?_
    repeat wtm_at "lwst"
    refine st_ixL (SqL.of hq) (atI_nat hu) ?_
    repeat wtm_at "lwst"
    refine ⟨v, ve, ((e.r : Nat) : Rw), _, rfl, hv, hfe, br, bd_est W he.1 he.2.1, fun r H3 e3 hr => ?_⟩
    repeat wtm_at "lwst"
    refine ⟨L, m, k, e.c, rfl, S2.up e3, W, hk, he.1, fun d H4 e4 hd => ?_⟩
    repeat wtm_at "lwst"
    refine ⟨f, r, _, _, rfl, ((hf.up e2).up e3).up e4, hr.up e4, bd_imp W hk he, bd_rest W he, fun t H5 e5 ht => ?_⟩
    repeat wtm_at "lwst"
    refine ⟨d, t, _, _, rfl, hd.up e5, ht, (ps_direct W hk he.1).all, bd_impr W hk he, fun y H6 e6 hy => q y H6 (((((e1.trans e2).trans e3).trans e4).trans e5).trans e6) ?_⟩
    unfold term
    rw [if_neg k0, if_neg k1, if_neg k2]
    exact hy
def sp_terms (K : PySem.W.Frag) (C : Addr) : Sp := fun vs H Q _ => ∃ (L : Lay) (m : M) (k kind limit : Nat), vs = [.ref L.a, .int (k : Int), .int (kind : Int), .int (limit : Int)] ∧ St K C H L m ∧ Wf m ∧ k < 3 ∧ limit ≤ 100000 ∧ RetL K H Q (terms m k kind limit)
abbrev s_terms : Stmt := top 62
theorem sc_terms : FnScope ["study", "policy", "kind", "limit", "event"] ["study", "policy", "kind", "limit"] (defScope s_terms) := ⟨rfl, rfl, rfl, by decide +kernel, rfl, by decide +kernel, by decide +kernel⟩
theorem ok_terms (T : Tx K mg az an aw d1 d2 d3 C) (h : Has K mg "terms" s_terms ["study", "policy", "kind", "limit"]) (O_term : Ok P w K mg base "term" 6 ["study", "policy", "kind", "limit", "event"] (sp_term K C)) :
    Ok P w K mg base "terms" 7 ["study", "policy", "kind", "limit"] (sp_terms K C) := by
  refine ok_of h sc_terms (fun vs H Q E h => ?_) (fun f cdv A outer s H vs Q E hr h => ⟨_, (pss_one (ps_ret (pe_lc (own := [("event", 4)]) (by rfl) sc_terms.nd (pi_list (pe_fldK (K := K) rfl (pv 0) rfl)) (blkOk_by (own := [("event", 4)]) (N := ["study", "policy", "kind", "limit", "event"]) (sc := defScope s_terms) (by decide +kernel)) (fun _ _ _ _ _ => (pg_name (i := 4) sc_terms.nd rfl (Or.inl rfl))) (fun _ _ _ _ _ => pts_nil) (fun _ _ _ _ _ => (pe_go O_term (hr.mono (by decide)) (by rfl) (pa_cons (pv 0) (pa_cons (pv 1) (pa_cons (pv 2) (pa_cons (pv 3) (pa_cons (pv 4) pa_nil)))))))))), ?_⟩)
  · first | (obtain ⟨_, rfl, _⟩ := h; rfl) | (obtain ⟨_, _, rfl, _⟩ := h; rfl) | (obtain ⟨_, _, _, rfl, _⟩ := h; rfl) | (obtain ⟨_, _, _, _, rfl, _⟩ := h; rfl) | (obtain ⟨_, _, _, _, _, rfl, _⟩ := h; rfl) | (obtain ⟨_, _, _, _, _, _, rfl, _⟩ := h; rfl) | (obtain ⟨_, _, _, _, _, _, _, rfl, _⟩ := h; rfl) | (obtain ⟨_, _, _, _, _, _, _, _, rfl, _⟩ := h; rfl) | (obtain ⟨_, _, _, _, _, _, _, _, _, rfl, _⟩ := h; rfl) | (obtain ⟨_, _, _, _, _, _, _, _, _, _, rfl, _⟩ := h; rfl) | (obtain ⟨_, _, _, _, _, _, _, _, _, _, _, rfl, _⟩ := h; rfl) | (obtain ⟨_, _, _, _, _, _, _, _, _, _, _, _, rfl, _⟩ := h; rfl) | (obtain ⟨_, _, _, _, _, _, _, _, _, _, _, _, _, rfl, _⟩ := h; rfl)

  · obtain ⟨L, m, k, kind, limit, rfl, S, W, hk, hlim, q⟩ := h
    obtain ⟨xs, hx, hxs⟩ := S.evs
    repeat wtm_at "lwst"
    refine fl_events T S ?_
    repeat wtm_at "lwst"
    refine go_lcL (R := RF K) (zs := terms m k kind limit) (map_len hxs) (ev_len W hxs) (Same.refl H) hx RF.up RF.mu (fun D i x z H1 hi hz hD e ha Q' kq => ?_) (fun p H2 ws hp e h2 a => q _ _ e (fs_of h2 a))
    obtain ⟨ev, hev, hq⟩ := hxs.get hi
    obtain rfl := map_at hz hev
    repeat wtm_at "lwst"
    refine ⟨rfl, ?_⟩
    repeat wtm_at "lwst"
    exact ⟨L, m, k, kind, limit, x, ev, rfl, S.up e, W, hk, hlim, hq.up e, evs_ok W (mem_ix hev), fun y H4 e4 hy => kq y H4 e4 hy⟩
def sp_variance_of_mean (K : PySem.W.Frag) (C : Addr) : Sp := fun vs H Q _ => ∃ (a : V) (rs : List Rw), vs = [a] ∧ Fs K H a rs ∧ Vs rs ∧ 2 ≤ rs.length ∧ rs.length ≤ 40 ∧ Ret1 K H Q (varR rs)
abbrev s_variance_of_mean : Stmt := top 63
theorem sc_variance_of_mean : FnScope ["values", "middle", "many", "squares", "value"] ["values"] (defScope s_variance_of_mean) := ⟨rfl, rfl, rfl, by decide +kernel, rfl, by decide +kernel, by decide +kernel⟩
theorem ok_variance_of_mean (T : Tx K mg az an aw d1 d2 d3 C) (h : Has K mg "variance_of_mean" s_variance_of_mean ["values"]) (O_over : Ok P w K mg base "over" 3 ["one", "other"] (sp_over K C)) (O_mean : Ok P w K mg base "mean" 5 ["quotients"] (sp_mean K C)) (O_square : Ok P w K mg base "square" 4 ["one"] (sp_square K C)) (O_total : Ok P w K mg base "total" 4 ["quotients"] (sp_total K C)) (O_whole : Ok P w K mg base "whole" 1 ["number"] (sp_whole K C)) (O_minus : Ok P w K mg base "minus" 3 ["one", "other"] (sp_minus K C)) :
    Ok P w K mg base "variance_of_mean" 6 ["values"] (sp_variance_of_mean K C) := by
  refine ok_of h sc_variance_of_mean (fun vs H Q E h => ?_) (fun f cdv A outer s H vs Q E hr h => ⟨_, (pss_cons (ps_asg (pe_tup (pa_cons (pe_go O_mean (hr.mono (by decide)) (by rfl) (pa_cons (pv 0) pa_nil)) (pa_cons (pe_callB (cb_lenK (K := K) rfl) (by rfl) T.b_len PySem.boot_len (pa_cons (pv 0) pa_nil)) pa_nil))) (pg_tupK (K := K) (n := 2) rfl rfl (pgs_cons (pg_name (i := 1) sc_variance_of_mean.nd rfl (Or.inr rfl)) (pgs_cons (pg_name (i := 2) sc_variance_of_mean.nd rfl (Or.inl rfl)) pgs_nil))))
      (pss_cons (ps_setLc (i := 3) (own := [("value", 4)]) (by rfl) sc_variance_of_mean.nd rfl rfl (sw_true rfl rfl rfl (by decide +kernel)) (pi_list (pv 0)) (blkOk_by (own := [("value", 4)]) (N := ["values", "middle", "many", "squares", "value"]) (sc := defScope s_variance_of_mean) (by decide +kernel)) (fun _ _ _ _ _ => (pg_name (i := 4) sc_variance_of_mean.nd rfl (Or.inl rfl))) (fun _ _ _ _ _ => pts_nil) (fun _ _ _ _ _ => (pe_go O_square (hr.mono (by decide)) (by rfl) (pa_cons (pe_go O_minus (hr.mono (by decide)) (by rfl) (pa_cons (pv 4) (pa_cons (pv 1) pa_nil))) pa_nil))))
      (pss_one (ps_ret (pe_go O_over (hr.mono (by decide)) (by rfl) (pa_cons (pe_go O_total (hr.mono (by decide)) (by rfl) (pa_cons (pv 3) pa_nil)) (pa_cons (pe_go O_whole (hr.mono (by decide)) (by rfl) (pa_cons (pe_op op_mulW (pe_op op_sub (pv 2) pe_int) (pv 2)) pa_nil)) pa_nil))))))), ?_⟩)
  · first | (obtain ⟨_, rfl, _⟩ := h; rfl) | (obtain ⟨_, _, rfl, _⟩ := h; rfl) | (obtain ⟨_, _, _, rfl, _⟩ := h; rfl) | (obtain ⟨_, _, _, _, rfl, _⟩ := h; rfl) | (obtain ⟨_, _, _, _, _, rfl, _⟩ := h; rfl) | (obtain ⟨_, _, _, _, _, _, rfl, _⟩ := h; rfl) | (obtain ⟨_, _, _, _, _, _, _, rfl, _⟩ := h; rfl) | (obtain ⟨_, _, _, _, _, _, _, _, rfl, _⟩ := h; rfl) | (obtain ⟨_, _, _, _, _, _, _, _, _, rfl, _⟩ := h; rfl) | (obtain ⟨_, _, _, _, _, _, _, _, _, _, rfl, _⟩ := h; rfl) | (obtain ⟨_, _, _, _, _, _, _, _, _, _, _, rfl, _⟩ := h; rfl) | (obtain ⟨_, _, _, _, _, _, _, _, _, _, _, _, rfl, _⟩ := h; rfl) | (obtain ⟨_, _, _, _, _, _, _, _, _, _, _, _, _, rfl, _⟩ := h; rfl)

  · obtain ⟨a, rs, rfl, ⟨p, xs, rfl, hp, hxs⟩, ⟨ps, bm, bd, pq, _⟩, l2, l40, q⟩ := h
    repeat wtm_at "lwst"
    refine ⟨_, rs, rfl, ⟨p, xs, rfl, hp, hxs⟩, ps, by omega, by omega, fun v H1 e1 hv => ?_⟩
    repeat wtm_at "lwst"
    refine st_len (sqL_up e1 hp) ?_
    repeat wtm_at "lwst"
    refine new_t (K := K) (by simp) fun tp H2 e2 htp => ?_
    repeat wtm_at "lwst"
    have e12 := e1.trans e2
    refine go_lcL (R := RF K) (zs := rs.map fun x => (x - meanR rs) * (x - meanR rs)) (map_len hxs) (by rw [hxs.len]; omega) (Same.refl H2) (sqL_up e12 hp) RF.up RF.mu (fun D i x z H3 hi hz hD e ha Q' kq => ?_) (fun sp H3 ws hsp e3 h3 a => ?_)
    · obtain ⟨r, hr, hq⟩ := hxs.get hi
      obtain rfl := map_at hz hr
      repeat wtm_at "lwst"
      refine ⟨rfl, ?_⟩
      repeat wtm_at "lwst"
      refine ⟨x, v, r, meanR rs, rfl, hq.up (e12.trans e), hv.up (e2.trans e), ps.1 r (mem_ix hr), bm, fun y H4 e4 hy => ?_⟩
      repeat wtm_at "lwst"
      exact ⟨y, _, rfl, hy, bd r (mem_ix hr), fun z' H5 e5 hz' => kq z' H5 (e4.trans e5) hz'⟩
    · repeat wtm_at "lwst"
      refine ⟨_, _, rfl, fs_of h3 a, pq, fun t H4 e4 ht => ?_⟩
      repeat wtm_at "lwst"
      have l1 : rs.length ≤ 40 := l40
      refine st_rI (by
        unfold CMulW
        rw [hxs.len]
        have h1 : ((((rs.length : Nat) : Int) - 1).natAbs).log2 ≤ (40 : Nat).log2 := log2_mono (by omega)
        have h2 : ((((rs.length : Nat) : Int)).natAbs).log2 ≤ (40 : Nat).log2 := log2_mono (by omega)
        have h3 : (40 : Nat).log2 = 5 := by decide
        omega) ?_
      repeat wtm_at "lwst"
      rw [hxs.len, show (((rs.length : Nat) : Int) - 1) * ((rs.length : Nat) : Int) = (((rs.length - 1) * rs.length : Nat) : Int) by rw [Int.natCast_mul, Int.natCast_sub (by omega)]; rfl]
      refine ⟨_, rfl, fun w H5 e5 hw => ?_⟩
      repeat wtm_at "lwst"
      have n0 : 0 < (rs.length - 1) * rs.length := Nat.mul_pos (by omega) (by omega)
      have n1 : (rs.length - 1) * rs.length ≤ 40 * 40 := Nat.mul_le_mul (by omega) (by omega)
      exact ⟨t, w, _, (((rs.length - 1) * rs.length : Nat) : Rw), rfl, ht.up e5, hw, pq.all, bd_nat (by omega), Rat.natCast_pos.mpr n0, fun y H6 e6 hy => q y H6 ((((e12.trans e3).trans e4).trans e5).trans e6) hy⟩
def sp_normalized_parts (K : PySem.W.Frag) (C : Addr) : Sp := fun vs H Q _ => ∃ (L : Lay) (m : M) (k : Nat), vs = [.ref L.a, .int (k : Int)] ∧ St K C H L m ∧ Wf m ∧ k < 3 ∧ ∀ v H', Same H H' → F2 K H' v (rewd m k).sum (imps m k).sum → Q v H'
abbrev s_normalized_parts : Stmt := top 64
theorem sc_normalized_parts : FnScope ["study", "policy", "rewarded", "event"] ["study", "policy"] (defScope s_normalized_parts) := ⟨rfl, rfl, rfl, by decide +kernel, rfl, by decide +kernel, by decide +kernel⟩
theorem ok_normalized_parts (T : Tx K mg az an aw d1 d2 d3 C) (h : Has K mg "normalized_parts" s_normalized_parts ["study", "policy"]) (O_times : Ok P w K mg base "times" 3 ["one", "other"] (sp_times K C)) (O_total : Ok P w K mg base "total" 4 ["quotients"] (sp_total K C)) (O_importance : Ok P w K mg base "importance" 4 ["study", "policy", "event"] (sp_importance K C)) (O_whole : Ok P w K mg base "whole" 1 ["number"] (sp_whole K C)) (O_importances : Ok P w K mg base "importances" 5 ["study", "policy"] (sp_importances K C)) :
    Ok P w K mg base "normalized_parts" 6 ["study", "policy"] (sp_normalized_parts K C) := by
  refine ok_of h sc_normalized_parts (fun vs H Q E h => ?_) (fun f cdv A outer s H vs Q E hr h => ⟨_, (pss_cons (ps_setLc (i := 2) (own := [("event", 3)]) (by rfl) sc_normalized_parts.nd rfl rfl (sw_true rfl rfl rfl (by decide +kernel)) (pi_list (pe_fldK (K := K) rfl (pv 0) rfl)) (blkOk_by (own := [("event", 3)]) (N := ["study", "policy", "rewarded", "event"]) (sc := defScope s_normalized_parts) (by decide +kernel)) (fun _ _ _ _ _ => (pg_name (i := 3) sc_normalized_parts.nd rfl (Or.inl rfl))) (fun _ _ _ _ _ => pts_nil) (fun _ _ _ _ _ => (pe_go O_times (hr.mono (by decide)) (by rfl) (pa_cons (pe_go O_importance (hr.mono (by decide)) (by rfl) (pa_cons (pv 0) (pa_cons (pv 1) (pa_cons (pv 3) pa_nil)))) (pa_cons (pe_go O_whole (hr.mono (by decide)) (by rfl) (pa_cons (pe_ix (ix_tupK (K := K) rfl) (pv 3) pe_int (fun _ _ => rfl)) pa_nil)) pa_nil)))))
      (pss_one (ps_ret (pe_tup (pa_cons (pe_go O_total (hr.mono (by decide)) (by rfl) (pa_cons (pv 2) pa_nil)) (pa_cons (pe_go O_total (hr.mono (by decide)) (by rfl) (pa_cons (pe_go O_importances (hr.mono (by decide)) (by rfl) (pa_cons (pv 0) (pa_cons (pv 1) pa_nil))) pa_nil)) pa_nil)))))), ?_⟩)
  · first | (obtain ⟨_, rfl, _⟩ := h; rfl) | (obtain ⟨_, _, rfl, _⟩ := h; rfl) | (obtain ⟨_, _, _, rfl, _⟩ := h; rfl) | (obtain ⟨_, _, _, _, rfl, _⟩ := h; rfl) | (obtain ⟨_, _, _, _, _, rfl, _⟩ := h; rfl) | (obtain ⟨_, _, _, _, _, _, rfl, _⟩ := h; rfl) | (obtain ⟨_, _, _, _, _, _, _, rfl, _⟩ := h; rfl) | (obtain ⟨_, _, _, _, _, _, _, _, rfl, _⟩ := h; rfl) | (obtain ⟨_, _, _, _, _, _, _, _, _, rfl, _⟩ := h; rfl) | (obtain ⟨_, _, _, _, _, _, _, _, _, _, rfl, _⟩ := h; rfl) | (obtain ⟨_, _, _, _, _, _, _, _, _, _, _, rfl, _⟩ := h; rfl) | (obtain ⟨_, _, _, _, _, _, _, _, _, _, _, _, rfl, _⟩ := h; rfl) | (obtain ⟨_, _, _, _, _, _, _, _, _, _, _, _, _, rfl, _⟩ := h; rfl)

  · obtain ⟨L, m, k, rfl, S, W, hk, q⟩ := h
    obtain ⟨xs, hx, hxs⟩ := S.evs
    repeat wtm_at "lwst"
    refine fl_events T S ?_
    repeat wtm_at "lwst"
    refine go_lcL (R := RF K) (zs := rewd m k) (map_len hxs) (ev_len W hxs) (Same.refl H) hx RF.up RF.mu (fun D i x z H1 hi hz hD e ha Q' kq => ?_) (fun p H1 ws hp e1 h1 a => ?_)
    · obtain ⟨ev, hev, hq⟩ := hxs.get hi
      have he := evs_ok W (mem_ix hev)
      obtain rfl := map_at hz hev
      repeat wtm_at "lwst"
      refine ⟨rfl, ?_⟩
      repeat wtm_at "lwst"
      refine ⟨L, m, k, x, ev, rfl, S.up e, W, hk, hq.up e, he, fun f H2 e2 hf => ?_⟩
      obtain ⟨p, z, rfl, hp, hz⟩ := hq.up (e.trans e2)
      repeat wtm_at "lwst"
      refine ⟨_, rfl, fun y H3 e3 hy => ?_⟩
      repeat wtm_at "lwst"
      exact ⟨f, y, _, ((ev.r : Nat) : Rw), rfl, hf.up e3, hy, bd_imp W hk he, bd_nat (by have := he.2.2.1; omega), fun y' H4 e4 hy' => kq y' H4 ((e2.trans e3).trans e4) hy'⟩
    · repeat wtm_at "lwst"
      refine ⟨_, _, rfl, fs_of h1 a, ps_rewd W hk, fun r H2 e2 hr => ?_⟩
      repeat wtm_at "lwst"
      refine ⟨L, m, k, rfl, (S.up e1).up e2, W, hk, fun il H3 e3 hil => ?_⟩
      repeat wtm_at "lwst"
      refine ⟨il, _, rfl, hil, ps_imps W hk, fun s H4 e4 hs => ?_⟩
      repeat wtm_at "lwst"
      refine new_t (K := K) (by simp) fun tp H5 e5 htp => q _ H5 ((((e1.trans e2).trans e3).trans e4).trans e5) ⟨tp, r, s, rfl, htp, ((hr.up e3).up e4).up e5, hs.up e5⟩
def sp_effective_parts (K : PySem.W.Frag) (C : Addr) : Sp := fun vs H Q _ => ∃ (L : Lay) (m : M) (k : Nat), vs = [.ref L.a, .int (k : Int)] ∧ St K C H L m ∧ Wf m ∧ k < 3 ∧ ∀ v H', Same H H' → F2 K H' v ((imps m k).sum * (imps m k).sum) (sqs (imps m k)).sum → Q v H'
abbrev s_effective_parts : Stmt := top 65
theorem sc_effective_parts : FnScope ["study", "policy", "found", "each"] ["study", "policy"] (defScope s_effective_parts) := ⟨rfl, rfl, rfl, by decide +kernel, rfl, by decide +kernel, by decide +kernel⟩
theorem ok_effective_parts (T : Tx K mg az an aw d1 d2 d3 C) (h : Has K mg "effective_parts" s_effective_parts ["study", "policy"]) (O_importances : Ok P w K mg base "importances" 5 ["study", "policy"] (sp_importances K C)) (O_square : Ok P w K mg base "square" 4 ["one"] (sp_square K C)) (O_total : Ok P w K mg base "total" 4 ["quotients"] (sp_total K C)) :
    Ok P w K mg base "effective_parts" 6 ["study", "policy"] (sp_effective_parts K C) := by
  refine ok_of h sc_effective_parts (fun vs H Q E h => ?_) (fun f cdv A outer s H vs Q E hr h => ⟨_, (pss_cons (ps_set (i := 2) sc_effective_parts.nd rfl (Or.inl rfl) (pe_go O_importances (hr.mono (by decide)) (by rfl) (pa_cons (pv 0) (pa_cons (pv 1) pa_nil))))
      (pss_one (ps_ret (pe_tup (pa_cons (pe_go O_square (hr.mono (by decide)) (by rfl) (pa_cons (pe_go O_total (hr.mono (by decide)) (by rfl) (pa_cons (pv 2) pa_nil)) pa_nil)) (pa_cons (pe_go O_total (hr.mono (by decide)) (by rfl) (pa_cons (pe_lc (own := [("each", 3)]) (by rfl) sc_effective_parts.nd (pi_list (pv 2)) (blkOk_by (own := [("each", 3)]) (N := ["study", "policy", "found", "each"]) (sc := defScope s_effective_parts) (by decide +kernel)) (fun _ _ _ _ _ => (pg_name (i := 3) sc_effective_parts.nd rfl (Or.inl rfl))) (fun _ _ _ _ _ => pts_nil) (fun _ _ _ _ _ => (pe_go O_square (hr.mono (by decide)) (by rfl) (pa_cons (pv 3) pa_nil)))) pa_nil)) pa_nil)))))), ?_⟩)
  · first | (obtain ⟨_, rfl, _⟩ := h; rfl) | (obtain ⟨_, _, rfl, _⟩ := h; rfl) | (obtain ⟨_, _, _, rfl, _⟩ := h; rfl) | (obtain ⟨_, _, _, _, rfl, _⟩ := h; rfl) | (obtain ⟨_, _, _, _, _, rfl, _⟩ := h; rfl) | (obtain ⟨_, _, _, _, _, _, rfl, _⟩ := h; rfl) | (obtain ⟨_, _, _, _, _, _, _, rfl, _⟩ := h; rfl) | (obtain ⟨_, _, _, _, _, _, _, _, rfl, _⟩ := h; rfl) | (obtain ⟨_, _, _, _, _, _, _, _, _, rfl, _⟩ := h; rfl) | (obtain ⟨_, _, _, _, _, _, _, _, _, _, rfl, _⟩ := h; rfl) | (obtain ⟨_, _, _, _, _, _, _, _, _, _, _, rfl, _⟩ := h; rfl) | (obtain ⟨_, _, _, _, _, _, _, _, _, _, _, _, rfl, _⟩ := h; rfl) | (obtain ⟨_, _, _, _, _, _, _, _, _, _, _, _, _, rfl, _⟩ := h; rfl)

  · obtain ⟨L, m, k, rfl, S, W, hk, q⟩ := h
    have ps := ps_imps W hk
    repeat wtm_at "lwst"
    refine ⟨L, m, k, rfl, S, W, hk, fun v H1 e1 hv => ?_⟩
    repeat wtm_at "lwst"
    refine ⟨v, _, rfl, hv, ps, fun s H2 e2 hs => ?_⟩
    repeat wtm_at "lwst"
    refine ⟨s, _, rfl, hs, ps.all, fun s2 H3 e3 hs2 => ?_⟩
    obtain ⟨p, xs, rfl, hp, hxs⟩ := (hv.up e2).up e3
    repeat wtm_at "lwst"
    have le : xs.length ≤ 100000 := by
      rw [hxs.len]
      unfold imps
      rw [List.length_map]
      have := W.ev40
      omega
    refine go_lcL (R := RF K) (zs := sqs (imps m k)) (map_len hxs) le (Same.refl H3) hp RF.up RF.mu (fun D i x z H4 hi hz hD e ha Q' kq => ?_) (fun lp H4 ws hlp e4 h4 a => ?_)
    · obtain ⟨r, hr, hq⟩ := hxs.get hi
      obtain rfl := map_at hz hr
      repeat wtm_at "lwst"
      refine ⟨rfl, ?_⟩
      repeat wtm_at "lwst"
      exact ⟨x, r, rfl, hq.up e, ps.1 r (mem_ix hr), kq⟩
    · repeat wtm_at "lwst"
      refine ⟨_, _, rfl, fs_of h4 a, ps_sqs W hk, fun t H5 e5 ht => ?_⟩
      repeat wtm_at "lwst"
      refine new_t (K := K) (by simp) fun tp H6 e6 htp => q _ H6 (((((e1.trans e2).trans e3).trans e4).trans e5).trans e6) ⟨tp, s2, t, rfl, htp, ((hs2.up e4).up e5).up e6, ht.up e6⟩
end
end Lw

namespace Lw
open PySem PySem.Spec PyProof.Rows L2
/-! ### == against [] and against the written 0 -/
def qD (r : Rw) : PyData := .tuple [.int r.num, .int (r.den : Int)]
def eD (e : Ev) : PyData := .tuple [.int (e.c : Int), .int (e.a : Int), .int (e.r : Int), qD e.p]
section
variable {K : PySem.W.Frag} {H : Hp} {Q : VK} {p : Addr} {v : V}
theorem dp_q {r : Rw} (h : Fq K H v r) : Dp K H v (qD r) := by
  obtain ⟨p, rfl, hp⟩ := h
  exact .tup hp (.cons (.int _) (.cons (.int _) .nil))
theorem dp_e {e : Ev} (h : Eq4 K H v e) : Dp K H v (eD e) := by
  obtain ⟨p, q, rfl, hp, hq⟩ := h
  exact .tup hp (.cons (.int _) (.cons (.int _) (.cons (.int _) (.cons (dp_q hq) .nil))))
theorem dp_qs : ∀ {xs : List V} {rs : List Rw}, All2 (Fq K H) xs rs → DpAll K H xs (rs.map qD)
  | _, _, .nil => .nil
  | _, _, .cons h t => .cons (dp_q h) (dp_qs t)
theorem dp_es : ∀ {xs : List V} {es : List Ev}, All2 (Eq4 K H) xs es → DpAll K H xs (es.map eD)
  | _, _, .nil => .nil
  | _, _, .cons h t => .cons (dp_e h) (dp_es t)
theorem shaped_list {α : Type} {f : α → PyData} (hf : ∀ a, (f a).canLay0 = true ∧ (f a).depth ≤ 3) (l : List α) : SeqAt.shaped (.list (l.map f)) = true := by
  have h1 : PyData.canLayAll0 (l.map f) = true := by
    induction l with
    | nil => simp [PyData.canLayAll0]
    | cons x r ih => rw [List.map_cons, PyData.canLayAll0, (hf x).1, ih]; rfl
  have h2 : PyData.depthAll (l.map f) ≤ 3 := by
    induction l with
    | nil => simp [PyData.depthAll]
    | cons x r ih =>
      rw [List.map_cons, PyData.depthAll]
      have := (hf x).2
      have : PyData.canLayAll0 (r.map f) = true := by
        rw [List.map_cons, PyData.canLayAll0] at h1
        exact (Bool.and_eq_true_iff.mp h1).2
      have := ih this
      omega
  unfold SeqAt.shaped
  rw [Bool.and_eq_true, PyData.canLay0, PyData.depth]
  exact ⟨h1, decide_eq_true (by omega)⟩
theorem qD_ok (r : Rw) : (qD r).canLay0 = true ∧ (qD r).depth ≤ 3 := by
  unfold qD
  simp [PyData.canLay0, PyData.canLayAll0, PyData.depth, PyData.depthAll]
theorem eD_ok (e : Ev) : (eD e).canLay0 = true ∧ (eD e).depth ≤ 3 := by
  unfold eD qD
  simp [PyData.canLay0, PyData.canLayAll0, PyData.depth, PyData.depthAll]
theorem eqv_nil {α : Type} {f : α → PyData} (l : List α) : PyData.eqv (.list (l.map f)) (.list []) = l.isEmpty := by
  cases l with
  | nil => simp [PyData.eqv, PyData.eqvAll]
  | cons x r => simp [PyData.eqv, PyData.eqvAll]
theorem eqv_zero (r : Rw) : PyData.eqv (qD r) (qD 0) = decide (r = 0) := by
  unfold qD
  rw [Bool.eq_iff_iff, decide_eq_true_eq]
  simp [PyData.eqv, PyData.eqvAll]
  rintro rfl
  rfl
theorem nil_iff {α : Type} (l : List α) : l.isEmpty = decide (l.length = 0) := by cases l <;> simp
theorem st_eqNil {rs : List Rw} (h : Fs K H v rs) (hp : H p = some (.lst [])) (q : Q (.bl rs.isEmpty) H) : rEqD K v (.ref p) H Q := by
  obtain ⟨a, xs, rfl, ha, hxs⟩ := h
  refine ⟨_, _, .lst ha (dp_qs hxs), .lst (SqL.of hp) .nil, shaped_list qD_ok rs, shaped_list (f := qD) qD_ok [], ?_⟩
  rw [eqv_nil]
  exact q
theorem st_neNil {rs : List Rw} (h : Fs K H v rs) (hp : H p = some (.lst [])) (q : Q (.bl (!rs.isEmpty)) H) : rNeD K v (.ref p) H Q := by
  obtain ⟨a, xs, rfl, ha, hxs⟩ := h
  refine ⟨_, _, .lst ha (dp_qs hxs), .lst (SqL.of hp) .nil, shaped_list qD_ok rs, shaped_list (f := qD) qD_ok [], ?_⟩
  rw [eqv_nil]
  exact q
theorem st_eqNilE {a : Addr} {xs : List V} {es : List Ev} (ha : SqL K H a xs) (hxs : All2 (Eq4 K H) xs es) (hp : H p = some (.lst [])) (q : Q (.bl es.isEmpty) H) : rEqD K (.ref a) (.ref p) H Q := by
  refine ⟨_, _, .lst ha (dp_es hxs), .lst (SqL.of hp) .nil, shaped_list eD_ok es, shaped_list (f := eD) eD_ok [], ?_⟩
  rw [eqv_nil]
  exact q
theorem st_eqZero {r : Rw} {u : V} (h : Fq K H v r) (hz : Fq K H u 0) (q : Q (.bl (decide (r = 0))) H) : rEqD K v u H Q := by
  have s : ∀ r : Rw, SeqAt.shaped (qD r) = true := fun r => by
    unfold SeqAt.shaped
    rw [Bool.and_eq_true]
    exact ⟨(qD_ok r).1, decide_eq_true (by have := (qD_ok r).2; omega)⟩
  refine ⟨_, _, dp_q h, dp_q hz, s r, s 0, ?_⟩
  rw [eqv_zero]
  exact q
end
end Lw

namespace Lw
open PySem PySem.Spec PyProof.Rows L2
local macro_rules | `(tactic| wtm_at "lwsame") => `(tactic| first
  | assumption | exact Same.refl _ | (refine Same.trans (by assumption) ?_; wtm_at "lwsame"))
local macro_rules | `(tactic| wtm_at "lwup") => `(tactic| first
  | assumption
  | ((with_reducible show SqT _ _ _ _); first | (refine sqT_up ?_ (by assumption); wtm_at "lwsame") | (refine KT.sq ?_ _; assumption) | (refine SqT.of ?_; wtm_at "lwup"))
  | ((with_reducible show SqL _ _ _ _); first | (refine sqL_up ?_ (by assumption); wtm_at "lwsame") | (refine SqL.of ?_; wtm_at "lwup"))
  | ((with_reducible show _ = some _); refine (show Same _ _ by wtm_at "lwsame") _ _ (by assumption))
  | ((with_reducible show Fq _ _ _ _); refine Fq.up ?_ (by assumption); wtm_at "lwsame")
  | ((with_reducible show Fs _ _ _ _); refine Fs.up ?_ (by assumption); wtm_at "lwsame")
  | ((with_reducible show Is _ _ _ _); refine Is.up ?_ (by assumption); wtm_at "lwsame")
  | ((with_reducible show Ns _ _ _ _); refine Ns.up ?_ (by assumption); wtm_at "lwsame")
  | ((with_reducible show Eq4 _ _ _ _); refine Eq4.up ?_ (by assumption); wtm_at "lwsame")
  | ((with_reducible show Evs _ _ _ _); refine Evs.up ?_ (by assumption); wtm_at "lwsame"))
local macro_rules | `(tactic| wtm_at "lwst2") => `(tactic| first
  | (with_reducible refine st_drop ?_)
  | (with_reducible refine st_par ?_)
  | (with_reducible refine st_par2 ?_)
  | (with_reducible refine st_un ?_)
  | (with_reducible refine st_rU ?_)
  | (with_reducible refine st_B ?_)
  | (with_reducible refine st_not ?_)
  | (with_reducible refine st_and ?_)
  | (with_reducible refine st_or ?_)
  | (with_reducible refine st_andV ?_)
  | (with_reducible refine st_orV ?_)
  | (with_reducible refine st_isB2 ?_)
  | (with_reducible refine st_ifE ?_)
  | (with_reducible refine st_yes ?_)
  | (with_reducible refine st_forL ?_)
  | (with_reducible refine st_forR ?_)
  | (with_reducible refine st_lcL ?_)
  | (with_reducible refine st_lcR ?_)
  | (with_reducible refine st_lcZ ?_)
  | (with_reducible refine st_bm ?_)
  | (with_reducible refine st_sfld ?_)
  | (with_reducible refine st_gsub ?_)
  | (with_reducible refine st_meth ?_)
  | (with_reducible refine st_sl ?_)
  | (with_reducible refine st_nopart ?_)
  | (with_reducible refine st_part ?_)
  | (with_reducible refine st_isI ?_)
  | (with_reducible refine st_rev ?_)
  | (with_reducible refine st_ckw ?_)
  | (with_reducible refine st_abs ?_)
  | ((with_reducible refine st_eq ?hh ?_); (case hh => exact rfl))
  | ((with_reducible refine st_ne ?hh ?_); (case hh => exact rfl))
  | ((with_reducible refine st_ixT (v := ?vv) (xs := ?xx) ?hh ?hi ?_); (case hh => wtm_at "lwup"); (case hi => exact rfl))
  | ((with_reducible refine st_gtup (xs := ?xx) ?hh ?hi ?_); (case hh => wtm_at "lwup"); (case hi => exact rfl)))
local macro_rules | `(tactic| wtm_at "lwst") => `(tactic| first
  | (with_reducible refine st_cons ?_)
  | ((with_reducible refine st_var (v := ?vv) ?hh ?_); (case hh => exact rfl))
  | (with_reducible refine st_nil ?_)
  | (with_reducible refine st_call ?_)
  | (with_reducible refine st_gname ?_)
  | (with_reducible refine st_c ?_)
  | (with_reducible refine st_seq ?_)
  | (with_reducible refine st_op ?_)
  | (with_reducible refine st_ret ?_)
  | (with_reducible refine st_lst ?_)
  | (with_reducible refine st_gcons ?_)
  | (with_reducible refine st_asg ?_)
  | (with_reducible refine st_isB ?_)
  | (with_reducible refine st_ifS ?_)
  | (with_reducible refine st_nx0 ?_)
  | (with_reducible refine st_test ?_)
  | (with_reducible refine st_fld ?_)
  | (with_reducible refine st_nx ?_)
  | (with_reducible refine st_rI0 ?_)
  | (with_reducible refine st_callB ?_)
  | (with_reducible refine st_gnil ?_)
  | (with_reducible refine st_tup ?_)
  | wtm_at "lwst2")

section
variable {P : Program} {w : World} {K : PySem.W.Frag} {mg : Str → Option Value} {base : Heap} {az an aw d1 d2 d3 C : Addr}

theorem here_take {m : M} {c a i : Nat} {e : Ev} (h : m.ev[i]? = some e) : (((m.ev.take (i + 1)).filter fun e => e.c == c && e.a == a).map fun e => (e.r : Rw)) = (((m.ev.take i).filter fun e => e.c == c && e.a == a).map fun e => (e.r : Rw)) ++ (if (e.c == c && e.a == a) = true then [(e.r : Rw)] else []) := by
  rw [List.take_succ, h, List.filter_append, List.map_append]
  congr 1
  show (([e] : List Ev).filter _).map _ = _
  rw [List.filter_cons]
  split <;> rfl
def sp_rewards_of (K : PySem.W.Frag) (C : Addr) : Sp := fun vs H Q _ => ∃ (L : Lay) (m : M) (c a : Nat), vs = [.ref L.a, .int (c : Int), .int (a : Int)] ∧ St K C H L m ∧ Wf m ∧ RetL K H Q (here m c a)
abbrev s_rewards_of : Stmt := top 66
theorem sc_rewards_of : FnScope ["study", "context", "action", "found", "event"] ["study", "context", "action"] (defScope s_rewards_of) := ⟨rfl, rfl, rfl, by decide +kernel, rfl, by decide +kernel, by decide +kernel⟩
theorem ok_rewards_of (T : Tx K mg az an aw d1 d2 d3 C) (h : Has K mg "rewards_of" s_rewards_of ["study", "context", "action"]) (O_whole : Ok P w K mg base "whole" 1 ["number"] (sp_whole K C)) :
    Ok P w K mg base "rewards_of" 2 ["study", "context", "action"] (sp_rewards_of K C) := by
  refine ok_of h sc_rewards_of (fun vs H Q E h => ?_) (fun f cdv A outer s H vs Q E hr h => ⟨_, (pss_cons (ps_set (i := 3) sc_rewards_of.nd rfl (Or.inl rfl) (pe_lst pa_nil))
      (pss_cons (ps_for PassesOwn.never rfl (pi_list (pe_fldK (K := K) rfl (pv 0) rfl)) (pg_name (i := 4) sc_rewards_of.nd rfl (Or.inl rfl)) (pss_one (ps_if (PW.pt (pw_and (pt_cmpR op_eq (pe_ix (ix_tupK (K := K) rfl) (pv 4) pe_int (fun _ _ => rfl)) (pv 1) (nomark _)) (pw_and1 (pt_cmpR op_eq (pe_ix (ix_tupK (K := K) rfl) (pv 4) pe_int (fun _ _ => rfl)) (pv 2) (nomark _))))) (pss_one (ps_expr (pe_bm PySem.F.plainAttrs_list PySem.F.slot_list_append PySem.F.type_list_append mt_append (pv 3) (pa_cons (pe_go O_whole (hr.mono (by decide)) (by rfl) (pa_cons (pe_ix (ix_tupK (K := K) rfl) (pv 4) pe_int (fun _ _ => rfl)) pa_nil)) pa_nil)))) pss_nil)))
      (pss_one (ps_ret (pv 3))))), ?_⟩)
  · first | (obtain ⟨_, rfl, _⟩ := h; rfl) | (obtain ⟨_, _, rfl, _⟩ := h; rfl) | (obtain ⟨_, _, _, rfl, _⟩ := h; rfl) | (obtain ⟨_, _, _, _, rfl, _⟩ := h; rfl) | (obtain ⟨_, _, _, _, _, rfl, _⟩ := h; rfl) | (obtain ⟨_, _, _, _, _, _, rfl, _⟩ := h; rfl) | (obtain ⟨_, _, _, _, _, _, _, rfl, _⟩ := h; rfl) | (obtain ⟨_, _, _, _, _, _, _, _, rfl, _⟩ := h; rfl) | (obtain ⟨_, _, _, _, _, _, _, _, _, rfl, _⟩ := h; rfl) | (obtain ⟨_, _, _, _, _, _, _, _, _, _, rfl, _⟩ := h; rfl) | (obtain ⟨_, _, _, _, _, _, _, _, _, _, _, rfl, _⟩ := h; rfl) | (obtain ⟨_, _, _, _, _, _, _, _, _, _, _, _, rfl, _⟩ := h; rfl) | (obtain ⟨_, _, _, _, _, _, _, _, _, _, _, _, _, rfl, _⟩ := h; rfl)

  · obtain ⟨L, m, c, a, rfl, S, W, q⟩ := h
    obtain ⟨xs, hx, hxs⟩ := S.evs
    repeat wtm_at "lwst"
    refine new_l (by simp) fun l H1 hn e1 hl => ?_
    repeat wtm_at "lwst"
    refine fl_events T (S.up e1) ?_
    repeat wtm_at "lwst"
    refine go_forL (H0 := H) e1 hx (fun i σ H1 => ∃ acc o, H1 l = some (.lst acc) ∧ All2 (Fq K H1) acc (((m.ev.take i).filter fun e => e.c == c && e.a == a).map fun e => (e.r : Rw)) ∧ σ = [some (.ref L.a), some (.int (c : Int)), some (.int (a : Int)), some (.ref l), o]) ⟨[], none, hl, .nil, rfl⟩ ?_ ?_
    · rintro i x σ H2 hi e2 ⟨acc, o, h2, ha, rfl⟩
      obtain ⟨ev, hev, hq0⟩ := hxs.get hi
      have hq := hq0.up e2
      obtain ⟨p, z, rfl, hp, hz⟩ := id hq
      have al := ha.len
      rw [List.length_map] at al
      have fl := List.length_filter_le (fun e : Ev => e.c == c && e.a == a) (m.ev.take i)
      rw [List.length_take] at fl
      have := W.ev40
      repeat wtm_at "lwst"
      rw [dec_len]
      refine cond_2 (fun b1 => ?_) (fun b1 => ?_)
      · repeat wtm_at "lwst"
        rw [dec_len]
        refine cond_2 (fun b2 => ?_) (fun b2 => ?_)
        · repeat wtm_at "lwst"
          refine bm_list (SqL.of h2) ?_
          repeat wtm_at "lwst"
          refine ⟨_, rfl, fun y H3 e3 hy => ?_⟩
          have h3 := e3 _ _ h2
          repeat wtm_at "lwst"
          refine st_append h3 (by omega) ?_
          repeat wtm_at "lwst"
          refine ⟨same_mut (e2.trans e3) hn, acc ++ [y], some (.ref p), upd_same, ?_, rfl⟩
          rw [here_take hev, b1, b2, if_pos (show (true && true) = true from rfl)]
          exact All2.app (ha.imp fun _ _ z => (z.up e3).mut h3) (All2.one (hy.mut h3))
        · repeat wtm_at "lwst"
          refine ⟨e2, acc, some (.ref p), h2, ?_, rfl⟩
          rw [here_take hev, b1, b2, if_neg (by simp), List.append_nil]
          exact ha
      · repeat wtm_at "lwst"
        refine ⟨e2, acc, some (.ref p), h2, ?_, rfl⟩
        rw [here_take hev, b1, if_neg (by simp), List.append_nil]
        exact ha
    · rintro σ H2 e2 ⟨acc, o, h2, ha, rfl⟩
      repeat wtm_at "lwst"
      rw [hxs.len, List.take_length] at ha
      exact q _ H2 e2 ⟨l, acc, rfl, SqL.of h2, ha⟩
def sp_rewards_of_action (K : PySem.W.Frag) (C : Addr) : Sp := fun vs H Q _ => ∃ (L : Lay) (m : M) (a : Nat), vs = [.ref L.a, .int (a : Int)] ∧ St K C H L m ∧ Wf m ∧ RetL K H Q (byAct m a)
theorem filter_opt {α β : Type} (p : α → Bool) (f : α → β) (l : List α) : (l.map fun x => if p x = true then some (f x) else none).filterMap id = (l.filter p).map f := by
  induction l with
  | nil => rfl
  | cons x r ih =>
    rw [List.map_cons, List.filter_cons]
    by_cases h : p x = true
    · rw [if_pos h, if_pos h, List.map_cons, ← ih]
      rfl
    · rw [if_neg h, if_neg h, ← ih]
      rfl
abbrev s_rewards_of_action : Stmt := top 67
theorem sc_rewards_of_action : FnScope ["study", "action", "event"] ["study", "action"] (defScope s_rewards_of_action) := ⟨rfl, rfl, rfl, by decide +kernel, rfl, by decide +kernel, by decide +kernel⟩
theorem ok_rewards_of_action (T : Tx K mg az an aw d1 d2 d3 C) (h : Has K mg "rewards_of_action" s_rewards_of_action ["study", "action"]) (O_whole : Ok P w K mg base "whole" 1 ["number"] (sp_whole K C)) :
    Ok P w K mg base "rewards_of_action" 2 ["study", "action"] (sp_rewards_of_action K C) := by
  refine ok_of h sc_rewards_of_action (fun vs H Q E h => ?_) (fun f cdv A outer s H vs Q E hr h => ⟨_, (pss_one (ps_ret (pe_lc (own := [("event", 2)]) (by rfl) sc_rewards_of_action.nd (pi_list (pe_fldK (K := K) rfl (pv 0) rfl)) (blkOk_by (own := [("event", 2)]) (N := ["study", "action", "event"]) (sc := defScope s_rewards_of_action) (by decide +kernel)) (fun _ _ _ _ _ => (pg_name (i := 2) sc_rewards_of_action.nd rfl (Or.inl rfl))) (fun _ _ _ _ _ => (pts_one (pt_cmpR op_eq (pe_ix (ix_tupK (K := K) rfl) (pv 2) pe_int (fun _ _ => rfl)) (pv 1) (nomark _)))) (fun _ _ _ _ _ => (pe_go O_whole (hr.mono (by decide)) (by rfl) (pa_cons (pe_ix (ix_tupK (K := K) rfl) (pv 2) pe_int (fun _ _ => rfl)) pa_nil)))))), ?_⟩)
  · first | (obtain ⟨_, rfl, _⟩ := h; rfl) | (obtain ⟨_, _, rfl, _⟩ := h; rfl) | (obtain ⟨_, _, _, rfl, _⟩ := h; rfl) | (obtain ⟨_, _, _, _, rfl, _⟩ := h; rfl) | (obtain ⟨_, _, _, _, _, rfl, _⟩ := h; rfl) | (obtain ⟨_, _, _, _, _, _, rfl, _⟩ := h; rfl) | (obtain ⟨_, _, _, _, _, _, _, rfl, _⟩ := h; rfl) | (obtain ⟨_, _, _, _, _, _, _, _, rfl, _⟩ := h; rfl) | (obtain ⟨_, _, _, _, _, _, _, _, _, rfl, _⟩ := h; rfl) | (obtain ⟨_, _, _, _, _, _, _, _, _, _, rfl, _⟩ := h; rfl) | (obtain ⟨_, _, _, _, _, _, _, _, _, _, _, rfl, _⟩ := h; rfl) | (obtain ⟨_, _, _, _, _, _, _, _, _, _, _, _, rfl, _⟩ := h; rfl) | (obtain ⟨_, _, _, _, _, _, _, _, _, _, _, _, _, rfl, _⟩ := h; rfl)

  · obtain ⟨L, m, a, rfl, S, W, q⟩ := h
    obtain ⟨xs, hx, hxs⟩ := S.evs
    repeat wtm_at "lwst"
    refine fl_events T S ?_
    repeat wtm_at "lwst"
    refine go_lcLt (R := RF K) (zs := m.ev.map fun e => if (e.a == a) = true then some (e.r : Rw) else none) (map_len hxs) (ev_len W hxs) (Same.refl H) hx RF.up RF.mu (fun D i x z H1 hi hz hD e ha Q' N' kq kn => ?_) (fun p H1 ws hp e1 h1 b => ?_)
    · obtain ⟨ev, hev, hq0⟩ := hxs.get hi
      obtain rfl := map_at hz hev
      have hq := hq0.up e
      obtain ⟨p, z, rfl, hp, hz⟩ := id hq
      repeat wtm_at "lwst"
      refine ⟨rfl, ?_⟩
      repeat wtm_at "lwst"
      rw [dec_len]
      refine cond_2 (fun b1 => ?_) (fun b1 => ?_)
      · repeat wtm_at "lwst"
        exact ⟨_, rfl, fun y H3 e3 hy => kq y H3 _ (if_pos b1) e3 hy⟩
      · exact kn _ (if_neg (by rw [b1]; simp)) (Same.refl _)
    · rw [filter_opt (fun e : Ev => e.a == a) (fun e : Ev => (e.r : Rw)) m.ev] at b
      exact q _ _ e1 (fs_of h1 b)
theorem mean_len {l : List Rw} (h : l ≠ []) : 0 < l.length := List.length_pos_iff.mpr h
theorem here_len {m : M} {c a : Nat} (W : Wf m) : (here m c a).length ≤ 40 := by
  unfold here
  rw [List.length_map]
  exact Nat.le_trans (List.length_filter_le _ _) W.ev40
theorem byAct_len {m : M} {a : Nat} (W : Wf m) : (byAct m a).length ≤ 40 := by
  unfold byAct
  rw [List.length_map]
  exact Nat.le_trans (List.length_filter_le _ _) W.ev40
def sp_fitted (K : PySem.W.Frag) (C : Addr) : Sp := fun vs H Q _ => ∃ (L : Lay) (m : M) (c a : Nat), vs = [.ref L.a, .int (c : Int), .int (a : Int)] ∧ St K C H L m ∧ Wf m ∧ Ret1 K H Q (fitted m c a)
theorem empty_t {l : List Rw} (h : l.isEmpty = true) : l = [] := List.isEmpty_iff.mp h
theorem empty_f {l : List Rw} (h : l.isEmpty = false) : l ≠ [] := fun z => by
  rw [z] at h
  cases h
abbrev s_fitted : Stmt := top 68
theorem sc_fitted : FnScope ["study", "context", "action", "found"] ["study", "context", "action"] (defScope s_fitted) := ⟨rfl, rfl, rfl, by decide +kernel, rfl, by decide +kernel, by decide +kernel⟩
theorem ok_fitted (T : Tx K mg az an aw d1 d2 d3 C) (h : Has K mg "fitted" s_fitted ["study", "context", "action"]) (O_rewards_of : Ok P w K mg base "rewards_of" 2 ["study", "context", "action"] (sp_rewards_of K C)) (O_rewards_of_action : Ok P w K mg base "rewards_of_action" 2 ["study", "action"] (sp_rewards_of_action K C)) (O_mean : Ok P w K mg base "mean" 5 ["quotients"] (sp_mean K C)) (O_whole : Ok P w K mg base "whole" 1 ["number"] (sp_whole K C)) :
    Ok P w K mg base "fitted" 6 ["study", "context", "action"] (sp_fitted K C) := by
  refine ok_of h sc_fitted (fun vs H Q E h => ?_) (fun f cdv A outer s H vs Q E hr h => ⟨_, (pss_cons (ps_set (i := 3) sc_fitted.nd rfl (Or.inl rfl) (pe_go O_rewards_of (hr.mono (by decide)) (by rfl) (pa_cons (pv 0) (pa_cons (pv 1) (pa_cons (pv 2) pa_nil)))))
      (pss_cons (ps_if (pt_cmpR (op_eqD hr.units) (pv 3) (pe_lst pa_nil) (nomark _)) (pss_one (ps_set (i := 3) sc_fitted.nd rfl (Or.inl rfl) (pe_go O_rewards_of_action (hr.mono (by decide)) (by rfl) (pa_cons (pv 0) (pa_cons (pv 2) pa_nil))))) pss_nil)
      (pss_one (ps_ret (pe_ifExp (pt_cmpR (op_neD hr.units) (pv 3) (pe_lst pa_nil) (nomark _)) (pe_go O_mean (hr.mono (by decide)) (by rfl) (pa_cons (pv 3) pa_nil)) (pe_go O_whole (hr.mono (by decide)) (by rfl) (pa_cons pe_int pa_nil))))))), ?_⟩)
  · first | (obtain ⟨_, rfl, _⟩ := h; rfl) | (obtain ⟨_, _, rfl, _⟩ := h; rfl) | (obtain ⟨_, _, _, rfl, _⟩ := h; rfl) | (obtain ⟨_, _, _, _, rfl, _⟩ := h; rfl) | (obtain ⟨_, _, _, _, _, rfl, _⟩ := h; rfl) | (obtain ⟨_, _, _, _, _, _, rfl, _⟩ := h; rfl) | (obtain ⟨_, _, _, _, _, _, _, rfl, _⟩ := h; rfl) | (obtain ⟨_, _, _, _, _, _, _, _, rfl, _⟩ := h; rfl) | (obtain ⟨_, _, _, _, _, _, _, _, _, rfl, _⟩ := h; rfl) | (obtain ⟨_, _, _, _, _, _, _, _, _, _, rfl, _⟩ := h; rfl) | (obtain ⟨_, _, _, _, _, _, _, _, _, _, _, rfl, _⟩ := h; rfl) | (obtain ⟨_, _, _, _, _, _, _, _, _, _, _, _, rfl, _⟩ := h; rfl) | (obtain ⟨_, _, _, _, _, _, _, _, _, _, _, _, _, rfl, _⟩ := h; rfl)

  · obtain ⟨L, m, c, a, rfl, S, W, q⟩ := h
    repeat wtm_at "lwst"
    refine ⟨L, m, c, a, rfl, S, W, fun v H1 e1 hv => ?_⟩
    repeat wtm_at "lwst"
    refine new_l (by simp) fun n1 H2 hn1 e2 h2 => ?_
    refine st_eqNil (hv.up e2) h2 ?_
    repeat wtm_at "lwst"
    refine cond_2 (fun b => ?_) (fun b => ?_)
    · have hh := empty_t b
      repeat wtm_at "lwst"
      refine ⟨L, m, a, rfl, (S.up e1).up e2, W, fun u H3 e3 hu => ?_⟩
      repeat wtm_at "lwst"
      refine new_l (by simp) fun n2 H4 hn2 e4 h4 => ?_
      refine st_neNil (hu.up e4) h4 ?_
      repeat wtm_at "lwst"
      refine cond_2 (fun b2 => ?_) (fun b2 => ?_)
      · have hb := empty_f (Bool.not_eq_true' _ ▸ b2)
        repeat wtm_at "lwst"
        refine ⟨u, _, rfl, hu.up e4, ps_byAct W, mean_len hb, by have := @byAct_len m a W; omega, fun y H5 e5 hy => q y H5 ((((e1.trans e2).trans e3).trans e4).trans e5) ?_⟩
        unfold fitted
        rw [if_pos hh, if_neg hb]
        exact hy
      · have hb := empty_t (Bool.not_eq_false' _ ▸ b2)
        repeat wtm_at "lwst"
        refine ⟨_, rfl, fun y H5 e5 hy => q y H5 ((((e1.trans e2).trans e3).trans e4).trans e5) ?_⟩
        unfold fitted
        rw [if_pos hh, if_pos hb]
        exact hy
    · have hh := empty_f b
      repeat wtm_at "lwst"
      refine new_l (by simp) fun n2 H4 hn2 e4 h4 => ?_
      refine st_neNil ((hv.up e2).up e4) h4 ?_
      repeat wtm_at "lwst"
      refine cond_t (by rw [b]; rfl) ?_
      repeat wtm_at "lwst"
      refine ⟨v, _, rfl, (hv.up e2).up e4, ps_here W, mean_len hh, by have := @here_len m c a W; omega, fun y H5 e5 hy => q y H5 (((e1.trans e2).trans e4).trans e5) ?_⟩
      unfold fitted
      rw [if_neg hh]
      exact hy
def sp_fitted_row (K : PySem.W.Frag) (C : Addr) : Sp := fun vs H Q _ => ∃ (L : Lay) (m : M) (c : Nat), vs = [.ref L.a, .int (c : Int)] ∧ St K C H L m ∧ Wf m ∧ RetL K H Q (fitRow m c)
abbrev s_fitted_row : Stmt := top 69
theorem sc_fitted_row : FnScope ["study", "context", "action"] ["study", "context"] (defScope s_fitted_row) := ⟨rfl, rfl, rfl, by decide +kernel, rfl, by decide +kernel, by decide +kernel⟩
theorem ok_fitted_row (T : Tx K mg az an aw d1 d2 d3 C) (h : Has K mg "fitted_row" s_fitted_row ["study", "context"]) (O_fitted : Ok P w K mg base "fitted" 6 ["study", "context", "action"] (sp_fitted K C)) :
    Ok P w K mg base "fitted_row" 7 ["study", "context"] (sp_fitted_row K C) := by
  refine ok_of h sc_fitted_row (fun vs H Q E h => ?_) (fun f cdv A outer s H vs Q E hr h => ⟨_, (pss_one (ps_ret (pe_lc (own := [("action", 2)]) (by rfl) sc_fitted_row.nd (pi_range1 (by rfl) T.b_range (pa_cons (pe_fldK (K := K) rfl (pv 0) rfl) pa_nil)) (blkOk_by (own := [("action", 2)]) (N := ["study", "context", "action"]) (sc := defScope s_fitted_row) (by decide +kernel)) (fun _ _ _ _ _ => (pg_name (i := 2) sc_fitted_row.nd rfl (Or.inl rfl))) (fun _ _ _ _ _ => pts_nil) (fun _ _ _ _ _ => (pe_go O_fitted (hr.mono (by decide)) (by rfl) (pa_cons (pv 0) (pa_cons (pv 1) (pa_cons (pv 2) pa_nil)))))))), ?_⟩)
  · first | (obtain ⟨_, rfl, _⟩ := h; rfl) | (obtain ⟨_, _, rfl, _⟩ := h; rfl) | (obtain ⟨_, _, _, rfl, _⟩ := h; rfl) | (obtain ⟨_, _, _, _, rfl, _⟩ := h; rfl) | (obtain ⟨_, _, _, _, _, rfl, _⟩ := h; rfl) | (obtain ⟨_, _, _, _, _, _, rfl, _⟩ := h; rfl) | (obtain ⟨_, _, _, _, _, _, _, rfl, _⟩ := h; rfl) | (obtain ⟨_, _, _, _, _, _, _, _, rfl, _⟩ := h; rfl) | (obtain ⟨_, _, _, _, _, _, _, _, _, rfl, _⟩ := h; rfl) | (obtain ⟨_, _, _, _, _, _, _, _, _, _, rfl, _⟩ := h; rfl) | (obtain ⟨_, _, _, _, _, _, _, _, _, _, _, rfl, _⟩ := h; rfl) | (obtain ⟨_, _, _, _, _, _, _, _, _, _, _, _, rfl, _⟩ := h; rfl) | (obtain ⟨_, _, _, _, _, _, _, _, _, _, _, _, _, rfl, _⟩ := h; rfl)

  · obtain ⟨L, m, c, rfl, S, W, q⟩ := h
    repeat wtm_at "lwst"
    refine fl_actions T S ?_
    repeat wtm_at "lwst"
    refine go_lcR (R := RF K) (n := m.na) (zs := fitRow m c) (by unfold fitRow; simp) (by have := W.na5; omega) (Same.refl H) RF.up RF.mu (fun D i z H1 hz hi hD e ha Q' kq => ?_) (fun p H1 ws hp e1 h1 a => q _ _ e1 (fs_of h1 a))
    have ez : z = fitted m c i := map_at hz (List.getElem?_range hi)
    subst ez
    repeat wtm_at "lwst"
    refine ⟨rfl, ?_⟩
    repeat wtm_at "lwst"
    exact ⟨L, m, c, i, rfl, S.up e, W, kq⟩
def sp_context_probability (K : PySem.W.Frag) (C : Addr) : Sp := fun vs H Q _ => ∃ (L : Lay) (m : M) (c : Nat), vs = [.ref L.a, .int (c : Int)] ∧ St K C H L m ∧ Wf m ∧ c < m.nc ∧ Ret1 K H Q (ctxP m c)
theorem tw_sum {m : M} (W : Wf m) : 0 < m.tw.sum := by
  have h1 := W.tw
  have h2 := W.nc1
  cases h : m.tw with
  | nil =>
    rw [h] at h1
    have := h1.1
    simp at this
    omega
  | cons x r =>
    rw [h] at h1
    have := (h1.2 x List.mem_cons_self).1
    rw [List.sum_cons]
    omega
abbrev s_context_probability : Stmt := top 70
theorem sc_context_probability : FnScope ["study", "context"] ["study", "context"] (defScope s_context_probability) := ⟨rfl, rfl, rfl, by decide +kernel, rfl, by decide +kernel, by decide +kernel⟩
theorem ok_context_probability (T : Tx K mg az an aw d1 d2 d3 C) (h : Has K mg "context_probability" s_context_probability ["study", "context"]) (O_quotient : Ok P w K mg base "quotient" 2 ["above", "below"] (sp_quotient K C)) :
    Ok P w K mg base "context_probability" 3 ["study", "context"] (sp_context_probability K C) := by
  refine ok_of h sc_context_probability (fun vs H Q E h => ?_) (fun f cdv A outer s H vs Q E hr h => ⟨_, (pss_one (ps_ret (pe_go O_quotient (hr.mono (by decide)) (by rfl) (pa_cons (pe_ix (ix_listK (K := K) rfl) (pe_fldK (K := K) rfl (pv 0) rfl) (pv 1) (fun _ _ => rfl)) (pa_cons (pe_callB (cr_sumK (K := K) rfl rfl) (by rfl) T.b_sum (by decide +kernel) (pa_cons (pe_fldK (K := K) rfl (pv 0) rfl) pa_nil)) pa_nil))))), ?_⟩)
  · first | (obtain ⟨_, rfl, _⟩ := h; rfl) | (obtain ⟨_, _, rfl, _⟩ := h; rfl) | (obtain ⟨_, _, _, rfl, _⟩ := h; rfl) | (obtain ⟨_, _, _, _, rfl, _⟩ := h; rfl) | (obtain ⟨_, _, _, _, _, rfl, _⟩ := h; rfl) | (obtain ⟨_, _, _, _, _, _, rfl, _⟩ := h; rfl) | (obtain ⟨_, _, _, _, _, _, _, rfl, _⟩ := h; rfl) | (obtain ⟨_, _, _, _, _, _, _, _, rfl, _⟩ := h; rfl) | (obtain ⟨_, _, _, _, _, _, _, _, _, rfl, _⟩ := h; rfl) | (obtain ⟨_, _, _, _, _, _, _, _, _, _, rfl, _⟩ := h; rfl) | (obtain ⟨_, _, _, _, _, _, _, _, _, _, _, rfl, _⟩ := h; rfl) | (obtain ⟨_, _, _, _, _, _, _, _, _, _, _, _, rfl, _⟩ := h; rfl) | (obtain ⟨_, _, _, _, _, _, _, _, _, _, _, _, _, rfl, _⟩ := h; rfl)

  · obtain ⟨L, m, c, rfl, S, W, hc, q⟩ := h
    have hl := W.tw.1
    repeat wtm_at "lwst"
    refine fl_tw T S ?_
    repeat wtm_at "lwst"
    refine st_ixL (SqL.of S.tw) (atI_nat (nz_get (by omega))) ?_
    repeat wtm_at "lwst"
    refine fl_tw T S ?_
    repeat wtm_at "lwst"
    refine st_sum (SqL.of S.tw) ?_
    repeat wtm_at "lwst"
    rw [nz_sum]
    exact mk_go (tw_sum W) (wts_small (fun x hx => (W.tw.2 x hx).2) hl W.nc6) q
theorem rew_le {m : M} (W : Wf m) {c a : Nat} (hc : c < m.nc) (ha : a < m.na) : rew m c a ≤ 100 := by
  have hC : m.tr[c]? = some (m.tr[c]'(by rw [W.tr.1]; exact hc)) := List.getElem?_eq_getElem _
  have h1 := W.tr.2 _ (List.mem_of_getElem? hC)
  have hA : (m.tr[c]'(by rw [W.tr.1]; exact hc))[a]? = some ((m.tr[c]'(by rw [W.tr.1]; exact hc))[a]'(by rw [h1.1]; exact ha)) := List.getElem?_eq_getElem _
  unfold rew
  rw [List.getD_eq_getElem?_getD (l := m.tr), hC, Option.getD_some, List.getD_eq_getElem?_getD, hA, Option.getD_some]
  exact h1.2 _ (List.mem_of_getElem? hA)
def sp_expected_reward (K : PySem.W.Frag) (C : Addr) : Sp := fun vs H Q _ => ∃ (L : Lay) (m : M) (k c : Nat), vs = [.ref L.a, .int (k : Int), .int (c : Int)] ∧ St K C H L m ∧ Wf m ∧ k < 3 ∧ c < m.nc ∧ Ret1 K H Q (expRew m k c)
abbrev s_expected_reward : Stmt := top 71
theorem sc_expected_reward : FnScope ["study", "policy", "context", "found", "action", "reward"] ["study", "policy", "context"] (defScope s_expected_reward) := ⟨rfl, rfl, rfl, by decide +kernel, rfl, by decide +kernel, by decide +kernel⟩
theorem ok_expected_reward (T : Tx K mg az an aw d1 d2 d3 C) (h : Has K mg "expected_reward" s_expected_reward ["study", "policy", "context"]) (O_total : Ok P w K mg base "total" 4 ["quotients"] (sp_total K C)) (O_whole : Ok P w K mg base "whole" 1 ["number"] (sp_whole K C)) (O_times : Ok P w K mg base "times" 3 ["one", "other"] (sp_times K C)) (O_probability : Ok P w K mg base "probability" 3 ["study", "policy", "context", "action"] (sp_probability K C)) :
    Ok P w K mg base "expected_reward" 5 ["study", "policy", "context"] (sp_expected_reward K C) := by
  refine ok_of h sc_expected_reward (fun vs H Q E h => ?_) (fun f cdv A outer s H vs Q E hr h => ⟨_, (pss_cons (ps_set (i := 3) sc_expected_reward.nd rfl (Or.inl rfl) (pe_lst pa_nil))
      (pss_cons (ps_for PassesOwn.never rfl (pi_range1 (by rfl) T.b_range (pa_cons (pe_fldK (K := K) rfl (pv 0) rfl) pa_nil)) (pg_name (i := 4) sc_expected_reward.nd rfl (Or.inl rfl)) (pss_cons (ps_set (i := 5) sc_expected_reward.nd rfl (Or.inl rfl) (pe_go O_whole (hr.mono (by decide)) (by rfl) (pa_cons (pe_ix (ix_listK (K := K) rfl) (pe_ix (ix_listK (K := K) rfl) (pe_fldK (K := K) rfl (pv 0) rfl) (pv 2) (fun _ _ => rfl)) (pv 4) (fun _ _ => rfl)) pa_nil)))
      (pss_one (ps_expr (pe_bm PySem.F.plainAttrs_list PySem.F.slot_list_append PySem.F.type_list_append mt_append (pv 3) (pa_cons (pe_go O_times (hr.mono (by decide)) (by rfl) (pa_cons (pe_go O_probability (hr.mono (by decide)) (by rfl) (pa_cons (pv 0) (pa_cons (pv 1) (pa_cons (pv 2) (pa_cons (pv 4) pa_nil))))) (pa_cons (pv 5) pa_nil))) pa_nil))))))
      (pss_one (ps_ret (pe_go O_total (hr.mono (by decide)) (by rfl) (pa_cons (pv 3) pa_nil)))))), ?_⟩)
  · first | (obtain ⟨_, rfl, _⟩ := h; rfl) | (obtain ⟨_, _, rfl, _⟩ := h; rfl) | (obtain ⟨_, _, _, rfl, _⟩ := h; rfl) | (obtain ⟨_, _, _, _, rfl, _⟩ := h; rfl) | (obtain ⟨_, _, _, _, _, rfl, _⟩ := h; rfl) | (obtain ⟨_, _, _, _, _, _, rfl, _⟩ := h; rfl) | (obtain ⟨_, _, _, _, _, _, _, rfl, _⟩ := h; rfl) | (obtain ⟨_, _, _, _, _, _, _, _, rfl, _⟩ := h; rfl) | (obtain ⟨_, _, _, _, _, _, _, _, _, rfl, _⟩ := h; rfl) | (obtain ⟨_, _, _, _, _, _, _, _, _, _, rfl, _⟩ := h; rfl) | (obtain ⟨_, _, _, _, _, _, _, _, _, _, _, rfl, _⟩ := h; rfl) | (obtain ⟨_, _, _, _, _, _, _, _, _, _, _, _, rfl, _⟩ := h; rfl) | (obtain ⟨_, _, _, _, _, _, _, _, _, _, _, _, _, rfl, _⟩ := h; rfl)

  · obtain ⟨L, m, k, c, rfl, S, W, hk, hc, q⟩ := h
    have na5 := W.na5
    repeat wtm_at "lwst"
    refine new_l (by simp) fun l H1 hn e1 hl => ?_
    repeat wtm_at "lwst"
    refine fl_actions T (S.up e1) ?_
    repeat wtm_at "lwst"
    refine go_forR (H0 := H) (n := m.na) (by omega) e1 (fun i σ H1 => ∃ acc o1 o2, H1 l = some (.lst acc) ∧ All2 (Fq K H1) acc (((List.range m.na).map fun a => chance m k c a * ((rew m c a : Nat) : Rw)).take i) ∧ σ = [some (.ref L.a), some (.int (k : Int)), some (.int (c : Int)), some (.ref l), o1, o2]) ⟨[], none, none, hl, .nil, rfl⟩ ?_ ?_
    · rintro i σ H2 hi e2 ⟨acc, o1, o2, h2, ha, rfl⟩
      obtain ⟨qa, xs, ys, hx, hv, hq, hu⟩ := sta_rew (S.up e2) W hc hi
      repeat wtm_at "lwst"
      refine fl_tr T (S.up e2) ?_
      repeat wtm_at "lwst"
      refine st_ixL (SqL.of hx) (atI_nat hv) ?_
      repeat wtm_at "lwst"
      refine st_ixL (SqL.of hq) (atI_nat hu) ?_
      repeat wtm_at "lwst"
      refine ⟨_, rfl, fun r H3 e3 hr3 => ?_⟩
      repeat wtm_at "lwst"
      refine bm_list (SqL.of (e3 _ _ h2)) ?_
      repeat wtm_at "lwst"
      refine ⟨L, m, k, c, i, rfl, (S.up e2).up e3, W, hk, hc, hi, fun v H4 e4 hv4 => ?_⟩
      repeat wtm_at "lwst"
      refine ⟨v, r, _, ((rew m c i : Nat) : Rw), rfl, hv4, hr3.up e4, bd_chance W hk hc hi, bd_nat (by have := rew_le W hc hi; omega), fun y H5 e5 hy => ?_⟩
      repeat wtm_at "lwst"
      have h5 := e5 _ _ (e4 _ _ (e3 _ _ h2))
      have al := ha.len
      rw [List.length_take] at al
      refine st_append h5 (by omega) ?_
      repeat wtm_at "lwst"
      refine ⟨same_mut (((e2.trans e3).trans e4).trans e5) hn, acc ++ [y], some (.int (i : Int)), some r, upd_same, ?_, rfl⟩
      rw [range_map_take _ hi]
      exact All2.app (ha.imp fun _ _ z => (((z.up e3).up e4).up e5).mut h5) (All2.one (hy.mut h5))
    · rintro σ H2 e2 ⟨acc, o1, o2, h2, ha, rfl⟩
      repeat wtm_at "lwst"
      have et : ((List.range m.na).map fun a => chance m k c a * ((rew m c a : Nat) : Rw)).take m.na = (List.range m.na).map fun a => chance m k c a * ((rew m c a : Nat) : Rw) := List.take_of_length_le (by simp)
      rw [et] at ha
      exact ⟨_, _, rfl, ⟨l, acc, rfl, SqL.of h2, ha⟩, ps_expRew W hk hc, fun y H3 e3 hy => q y H3 (e2.trans e3) hy⟩
def sp_true_value_of (K : PySem.W.Frag) (C : Addr) : Sp := fun vs H Q _ => ∃ (L : Lay) (m : M) (k : Nat), vs = [.ref L.a, .int (k : Int)] ∧ St K C H L m ∧ Wf m ∧ k < 3 ∧ Ret1 K H Q (trueV m k)
abbrev s_true_value_of : Stmt := top 72
theorem sc_true_value_of : FnScope ["study", "policy", "found", "context"] ["study", "policy"] (defScope s_true_value_of) := ⟨rfl, rfl, rfl, by decide +kernel, rfl, by decide +kernel, by decide +kernel⟩
theorem ok_true_value_of (T : Tx K mg az an aw d1 d2 d3 C) (h : Has K mg "true_value_of" s_true_value_of ["study", "policy"]) (O_total : Ok P w K mg base "total" 4 ["quotients"] (sp_total K C)) (O_times : Ok P w K mg base "times" 3 ["one", "other"] (sp_times K C)) (O_context_probability : Ok P w K mg base "context_probability" 3 ["study", "context"] (sp_context_probability K C)) (O_expected_reward : Ok P w K mg base "expected_reward" 5 ["study", "policy", "context"] (sp_expected_reward K C)) :
    Ok P w K mg base "true_value_of" 6 ["study", "policy"] (sp_true_value_of K C) := by
  refine ok_of h sc_true_value_of (fun vs H Q E h => ?_) (fun f cdv A outer s H vs Q E hr h => ⟨_, (pss_cons (ps_set (i := 2) sc_true_value_of.nd rfl (Or.inl rfl) (pe_lst pa_nil))
      (pss_cons (ps_for PassesOwn.never rfl (pi_range1 (by rfl) T.b_range (pa_cons (pe_fldK (K := K) rfl (pv 0) rfl) pa_nil)) (pg_name (i := 3) sc_true_value_of.nd rfl (Or.inl rfl)) (pss_one (ps_expr (pe_bm PySem.F.plainAttrs_list PySem.F.slot_list_append PySem.F.type_list_append mt_append (pv 2) (pa_cons (pe_go O_times (hr.mono (by decide)) (by rfl) (pa_cons (pe_go O_context_probability (hr.mono (by decide)) (by rfl) (pa_cons (pv 0) (pa_cons (pv 3) pa_nil))) (pa_cons (pe_go O_expected_reward (hr.mono (by decide)) (by rfl) (pa_cons (pv 0) (pa_cons (pv 1) (pa_cons (pv 3) pa_nil)))) pa_nil))) pa_nil)))))
      (pss_one (ps_ret (pe_go O_total (hr.mono (by decide)) (by rfl) (pa_cons (pv 2) pa_nil)))))), ?_⟩)
  · first | (obtain ⟨_, rfl, _⟩ := h; rfl) | (obtain ⟨_, _, rfl, _⟩ := h; rfl) | (obtain ⟨_, _, _, rfl, _⟩ := h; rfl) | (obtain ⟨_, _, _, _, rfl, _⟩ := h; rfl) | (obtain ⟨_, _, _, _, _, rfl, _⟩ := h; rfl) | (obtain ⟨_, _, _, _, _, _, rfl, _⟩ := h; rfl) | (obtain ⟨_, _, _, _, _, _, _, rfl, _⟩ := h; rfl) | (obtain ⟨_, _, _, _, _, _, _, _, rfl, _⟩ := h; rfl) | (obtain ⟨_, _, _, _, _, _, _, _, _, rfl, _⟩ := h; rfl) | (obtain ⟨_, _, _, _, _, _, _, _, _, _, rfl, _⟩ := h; rfl) | (obtain ⟨_, _, _, _, _, _, _, _, _, _, _, rfl, _⟩ := h; rfl) | (obtain ⟨_, _, _, _, _, _, _, _, _, _, _, _, rfl, _⟩ := h; rfl) | (obtain ⟨_, _, _, _, _, _, _, _, _, _, _, _, _, rfl, _⟩ := h; rfl)

  · obtain ⟨L, m, k, rfl, S, W, hk, q⟩ := h
    have nc6 := W.nc6
    repeat wtm_at "lwst"
    refine new_l (by simp) fun l H1 hn e1 hl => ?_
    repeat wtm_at "lwst"
    refine fl_contexts T (S.up e1) ?_
    repeat wtm_at "lwst"
    refine go_forR (H0 := H) (n := m.nc) (by omega) e1 (fun i σ H1 => ∃ acc o, H1 l = some (.lst acc) ∧ All2 (Fq K H1) acc (((List.range m.nc).map fun c => ctxP m c * expRew m k c).take i) ∧ σ = [some (.ref L.a), some (.int (k : Int)), some (.ref l), o]) ⟨[], none, hl, .nil, rfl⟩ ?_ ?_
    · rintro i σ H2 hi e2 ⟨acc, o, h2, ha, rfl⟩
      repeat wtm_at "lwst"
      refine bm_list (SqL.of h2) ?_
      repeat wtm_at "lwst"
      refine ⟨L, m, i, rfl, S.up e2, W, hi, fun v H3 e3 hv3 => ?_⟩
      repeat wtm_at "lwst"
      refine ⟨L, m, k, i, rfl, (S.up e2).up e3, W, hk, hi, fun u H4 e4 hu4 => ?_⟩
      repeat wtm_at "lwst"
      refine ⟨v, u, _, _, rfl, hv3.up e4, hu4, bd_ctxP W hi, (ps_expRew W hk hi).all, fun y H5 e5 hy => ?_⟩
      repeat wtm_at "lwst"
      have h5 := e5 _ _ (e4 _ _ (e3 _ _ h2))
      have al := ha.len
      rw [List.length_take] at al
      refine st_append h5 (by omega) ?_
      repeat wtm_at "lwst"
      refine ⟨same_mut (((e2.trans e3).trans e4).trans e5) hn, acc ++ [y], some (.int (i : Int)), upd_same, ?_, rfl⟩
      rw [range_map_take _ hi]
      exact All2.app (ha.imp fun _ _ z => (((z.up e3).up e4).up e5).mut h5) (All2.one (hy.mut h5))
    · rintro σ H2 e2 ⟨acc, o, h2, ha, rfl⟩
      repeat wtm_at "lwst"
      have et : ((List.range m.nc).map fun c => ctxP m c * expRew m k c).take m.nc = (List.range m.nc).map fun c => ctxP m c * expRew m k c := List.take_of_length_le (by simp)
      rw [et] at ha
      exact ⟨_, _, rfl, ⟨l, acc, rfl, SqL.of h2, ha⟩, ps_trueV W hk, fun y H3 e3 hy => q y H3 (e2.trans e3) hy⟩
end
end Lw

namespace Lw
open PySem PySem.Spec PyProof.Rows L2
local macro_rules | `(tactic| wtm_at "lwsame") => `(tactic| first
  | assumption | exact Same.refl _ | (refine Same.trans (by assumption) ?_; wtm_at "lwsame"))
local macro_rules | `(tactic| wtm_at "lwup") => `(tactic| first
  | assumption
  | ((with_reducible show SqT _ _ _ _); first | (refine sqT_up ?_ (by assumption); wtm_at "lwsame") | (refine KT.sq ?_ _; assumption) | (refine SqT.of ?_; wtm_at "lwup"))
  | ((with_reducible show SqL _ _ _ _); first | (refine sqL_up ?_ (by assumption); wtm_at "lwsame") | (refine SqL.of ?_; wtm_at "lwup"))
  | ((with_reducible show _ = some _); refine (show Same _ _ by wtm_at "lwsame") _ _ (by assumption))
  | ((with_reducible show Fq _ _ _ _); refine Fq.up ?_ (by assumption); wtm_at "lwsame")
  | ((with_reducible show Fs _ _ _ _); refine Fs.up ?_ (by assumption); wtm_at "lwsame")
  | ((with_reducible show Is _ _ _ _); refine Is.up ?_ (by assumption); wtm_at "lwsame")
  | ((with_reducible show Ns _ _ _ _); refine Ns.up ?_ (by assumption); wtm_at "lwsame")
  | ((with_reducible show Eq4 _ _ _ _); refine Eq4.up ?_ (by assumption); wtm_at "lwsame")
  | ((with_reducible show Evs _ _ _ _); refine Evs.up ?_ (by assumption); wtm_at "lwsame"))
local macro_rules | `(tactic| wtm_at "lwst2") => `(tactic| first
  | (with_reducible refine st_drop ?_)
  | (with_reducible refine st_par ?_)
  | (with_reducible refine st_par2 ?_)
  | (with_reducible refine st_un ?_)
  | (with_reducible refine st_rU ?_)
  | (with_reducible refine st_B ?_)
  | (with_reducible refine st_not ?_)
  | (with_reducible refine st_and ?_)
  | (with_reducible refine st_or ?_)
  | (with_reducible refine st_andV ?_)
  | (with_reducible refine st_orV ?_)
  | (with_reducible refine st_isB2 ?_)
  | (with_reducible refine st_ifE ?_)
  | (with_reducible refine st_yes ?_)
  | (with_reducible refine st_forL ?_)
  | (with_reducible refine st_forR ?_)
  | (with_reducible refine st_lcL ?_)
  | (with_reducible refine st_lcR ?_)
  | (with_reducible refine st_lcZ ?_)
  | (with_reducible refine st_bm ?_)
  | (with_reducible refine st_sfld ?_)
  | (with_reducible refine st_gsub ?_)
  | (with_reducible refine st_meth ?_)
  | (with_reducible refine st_sl ?_)
  | (with_reducible refine st_nopart ?_)
  | (with_reducible refine st_part ?_)
  | (with_reducible refine st_isI ?_)
  | (with_reducible refine st_rev ?_)
  | (with_reducible refine st_ckw ?_)
  | (with_reducible refine st_abs ?_)
  | ((with_reducible refine st_eq ?hh ?_); (case hh => exact rfl))
  | ((with_reducible refine st_ne ?hh ?_); (case hh => exact rfl))
  | ((with_reducible refine st_ixT (v := ?vv) (xs := ?xx) ?hh ?hi ?_); (case hh => wtm_at "lwup"); (case hi => exact rfl))
  | ((with_reducible refine st_gtup (xs := ?xx) ?hh ?hi ?_); (case hh => wtm_at "lwup"); (case hi => exact rfl)))
local macro_rules | `(tactic| wtm_at "lwst") => `(tactic| first
  | (with_reducible refine st_cons ?_)
  | ((with_reducible refine st_var (v := ?vv) ?hh ?_); (case hh => exact rfl))
  | (with_reducible refine st_nil ?_)
  | (with_reducible refine st_call ?_)
  | (with_reducible refine st_gname ?_)
  | (with_reducible refine st_c ?_)
  | (with_reducible refine st_seq ?_)
  | (with_reducible refine st_op ?_)
  | (with_reducible refine st_ret ?_)
  | (with_reducible refine st_lst ?_)
  | (with_reducible refine st_gcons ?_)
  | (with_reducible refine st_asg ?_)
  | (with_reducible refine st_isB ?_)
  | (with_reducible refine st_ifS ?_)
  | (with_reducible refine st_nx0 ?_)
  | (with_reducible refine st_test ?_)
  | (with_reducible refine st_fld ?_)
  | (with_reducible refine st_nx ?_)
  | (with_reducible refine st_rI0 ?_)
  | (with_reducible refine st_callB ?_)
  | (with_reducible refine st_gnil ?_)
  | (with_reducible refine st_tup ?_)
  | wtm_at "lwst2")

theorem num_pos_iff (y : Rw) : 0 < y.num ↔ 0 < y := by
  have := Rat.lt_iff 0 y
  simp at this
  exact this.symm
/-- a pair of a quotient and an event; of two quotients -/
def Pe (K : PySem.W.Frag) (H : Hp) (v : V) (d : Rw × Ev) : Prop := ∃ p a b, v = .ref p ∧ SqT K H p [a, b] ∧ Fq K H a d.1 ∧ Eq4 K H b d.2
theorem Pe.up {K : PySem.W.Frag} {H H' : Hp} {v : V} {d : Rw × Ev} (e : Same H H') (h : Pe K H v d) : Pe K H' v d :=
  let ⟨p, a, b, h1, h2, h3, h4⟩ := h
  ⟨p, a, b, h1, sqT_up e h2, h3.up e, h4.up e⟩
theorem Pe.mut {K : PySem.W.Frag} {H : Hp} {v : V} {d : Rw × Ev} {l : Addr} {ys : List V} {o : HO} (hl : H l = some (.lst ys)) (h : Pe K H v d) : Pe K (upd H l o) v d :=
  let ⟨p, a, b, h1, h2, h3, h4⟩ := h
  ⟨p, a, b, h1, sqT_mut hl h2, h3.mut hl, h4.mut hl⟩
def Pp (K : PySem.W.Frag) (H : Hp) (v : V) (d : Rw × Rw) : Prop := F2 K H v d.1 d.2
theorem Pp.up {K : PySem.W.Frag} {H H' : Hp} {v : V} {d : Rw × Rw} (e : Same H H') (h : Pp K H v d) : Pp K H' v d :=
  let ⟨p, a, b, h1, h2, h3, h4⟩ := h
  ⟨p, a, b, h1, sqT_up e h2, h3.up e, h4.up e⟩
theorem Pp.mut {K : PySem.W.Frag} {H : Hp} {v : V} {d : Rw × Rw} {l : Addr} {ys : List V} {o : HO} (hl : H l = some (.lst ys)) (h : Pp K H v d) : Pp K (upd H l o) v d :=
  let ⟨p, a, b, h1, h2, h3, h4⟩ := h
  ⟨p, a, b, h1, sqT_mut hl h2, h3.mut hl, h4.mut hl⟩
theorem Pe.hide {K : PySem.W.Frag} {H : Hp} {v : V} {d : Rw × Ev} {l : Addr} {ys : List V} (hl : H l = some (.lst ys)) (h : Pe K H v d) : Pe K (hide H l) v d :=
  let ⟨p, a, b, h1, h2, h3, h4⟩ := h
  ⟨p, a, b, h1, sqT_hide hl h2, h3.hide hl, h4.hide hl⟩
def RP (K : PySem.W.Frag) : Addr → Hp → V → Rw → Prop := RF K
def Pes (K : PySem.W.Frag) (H : Hp) (v : V) (ds : List (Rw × Ev)) : Prop := ∃ p xs, v = .ref p ∧ SqL K H p xs ∧ All2 (Pe K H) xs ds
theorem Pes.up {K : PySem.W.Frag} {H H' : Hp} {v : V} {ds : List (Rw × Ev)} (e : Same H H') (h : Pes K H v ds) : Pes K H' v ds :=
  let ⟨p, xs, h1, h2, h3⟩ := h
  ⟨p, xs, h1, sqL_up e h2, h3.imp fun _ _ z => z.up e⟩
section
variable {P : Program} {w : World} {K : PySem.W.Frag} {mg : Str → Option Value} {base : Heap} {az an aw d1 d2 d3 C : Addr}

def possIn (m : M) (g i j : Nat) : List (Rw × Ev) := ((List.range i).flatMap fun c => (List.range m.na).filterMap (possAt m g c)) ++ (List.range j).filterMap (possAt m g i)
theorem poss_more {m : M} {g i j : Nat} : possIn m g i (j + 1) = possIn m g i j ++ (possAt m g i j).toList := by
  unfold possIn
  rw [List.range_succ, List.filterMap_append, List.append_assoc]
  cases h : possAt m g i j <;> simp [h]
theorem poss_next {m : M} {g i : Nat} : possIn m g i m.na = possIn m g (i + 1) 0 := by
  unfold possIn
  rw [List.range_succ, List.flatMap_append]
  simp
theorem poss_all {m : M} {g : Nat} : possIn m g m.nc 0 = possible m g := by
  unfold possIn possible
  simp
theorem possIn_len (m : M) (g i j : Nat) : (possIn m g i j).length ≤ i * m.na + j := by
  unfold possIn
  rw [List.length_append]
  have h1 : ((List.range i).flatMap fun c => (List.range m.na).filterMap (possAt m g c)).length ≤ i * m.na := by
    induction i with
    | zero => simp
    | succ i ih =>
      rw [List.range_succ, List.flatMap_append, List.length_append]
      have h2 : (([i] : List Nat).flatMap fun c => (List.range m.na).filterMap (possAt m g c)).length ≤ m.na := by
        simp only [List.flatMap_cons, List.flatMap_nil, List.append_nil]
        exact Nat.le_trans (List.length_filterMap_le _ _) (by simp)
      rw [Nat.add_mul, Nat.one_mul]
      omega
  have h2 : ((List.range j).filterMap (possAt m g i)).length ≤ j := Nat.le_trans (List.length_filterMap_le _ _) (by simp)
  omega
def sp_possible_events (K : PySem.W.Frag) (C : Addr) : Sp := fun vs H Q _ => ∃ (L : Lay) (m : M) (g : Nat), vs = [.ref L.a, .int (g : Int)] ∧ St K C H L m ∧ Wf m ∧ g < 3 ∧ ∀ p H' xs, H p = none → Same H H' → H' p = some (.lst xs) → All2 (Pe K H') xs (possible m g) → Q (.ref p) H'
abbrev s_possible_events : Stmt := top 73
theorem sc_possible_events : FnScope ["study", "logging", "found", "context", "action", "chosen", "event"] ["study", "logging"] (defScope s_possible_events) := ⟨rfl, rfl, rfl, by decide +kernel, rfl, by decide +kernel, by decide +kernel⟩
theorem ok_possible_events (T : Tx K mg az an aw d1 d2 d3 C) (h : Has K mg "possible_events" s_possible_events ["study", "logging"]) (O_probability : Ok P w K mg base "probability" 3 ["study", "policy", "context", "action"] (sp_probability K C)) (O_times : Ok P w K mg base "times" 3 ["one", "other"] (sp_times K C)) (O_context_probability : Ok P w K mg base "context_probability" 3 ["study", "context"] (sp_context_probability K C)) :
    Ok P w K mg base "possible_events" 4 ["study", "logging"] (sp_possible_events K C) := by
  refine ok_of h sc_possible_events (fun vs H Q E h => ?_) (fun f cdv A outer s H vs Q E hr h => ⟨_, (pss_cons (ps_set (i := 2) sc_possible_events.nd rfl (Or.inl rfl) (pe_lst pa_nil))
      (pss_cons (ps_for PassesOwn.never rfl (pi_range1 (by rfl) T.b_range (pa_cons (pe_fldK (K := K) rfl (pv 0) rfl) pa_nil)) (pg_name (i := 3) sc_possible_events.nd rfl (Or.inl rfl)) (pss_one (ps_for PassesOwn.never rfl (pi_range1 (by rfl) T.b_range (pa_cons (pe_fldK (K := K) rfl (pv 0) rfl) pa_nil)) (pg_name (i := 4) sc_possible_events.nd rfl (Or.inl rfl)) (pss_cons (ps_set (i := 5) sc_possible_events.nd rfl (Or.inl rfl) (pe_go O_probability (hr.mono (by decide)) (by rfl) (pa_cons (pv 0) (pa_cons (pv 1) (pa_cons (pv 3) (pa_cons (pv 4) pa_nil))))))
      (pss_one (ps_if (pt_cmpR op_gt (pe_ix (ix_tupK (K := K) rfl) (pv 5) pe_int (fun _ _ => rfl)) pe_int (nomark _)) (pss_cons (ps_set (i := 6) sc_possible_events.nd rfl (Or.inl rfl) (pe_tup (pa_cons (pv 3) (pa_cons (pv 4) (pa_cons (pe_ix (ix_listK (K := K) rfl) (pe_ix (ix_listK (K := K) rfl) (pe_fldK (K := K) rfl (pv 0) rfl) (pv 3) (fun _ _ => rfl)) (pv 4) (fun _ _ => rfl)) (pa_cons (pv 5) pa_nil))))))
      (pss_one (ps_expr (pe_bm PySem.F.plainAttrs_list PySem.F.slot_list_append PySem.F.type_list_append mt_append (pv 2) (pa_cons (pe_tup (pa_cons (pe_go O_times (hr.mono (by decide)) (by rfl) (pa_cons (pe_go O_context_probability (hr.mono (by decide)) (by rfl) (pa_cons (pv 0) (pa_cons (pv 3) pa_nil))) (pa_cons (pv 5) pa_nil))) (pa_cons (pv 6) pa_nil))) pa_nil))))) pss_nil))))))
      (pss_one (ps_ret (pv 2))))), ?_⟩)
  · first | (obtain ⟨_, rfl, _⟩ := h; rfl) | (obtain ⟨_, _, rfl, _⟩ := h; rfl) | (obtain ⟨_, _, _, rfl, _⟩ := h; rfl) | (obtain ⟨_, _, _, _, rfl, _⟩ := h; rfl) | (obtain ⟨_, _, _, _, _, rfl, _⟩ := h; rfl) | (obtain ⟨_, _, _, _, _, _, rfl, _⟩ := h; rfl) | (obtain ⟨_, _, _, _, _, _, _, rfl, _⟩ := h; rfl) | (obtain ⟨_, _, _, _, _, _, _, _, rfl, _⟩ := h; rfl) | (obtain ⟨_, _, _, _, _, _, _, _, _, rfl, _⟩ := h; rfl) | (obtain ⟨_, _, _, _, _, _, _, _, _, _, rfl, _⟩ := h; rfl) | (obtain ⟨_, _, _, _, _, _, _, _, _, _, _, rfl, _⟩ := h; rfl) | (obtain ⟨_, _, _, _, _, _, _, _, _, _, _, _, rfl, _⟩ := h; rfl) | (obtain ⟨_, _, _, _, _, _, _, _, _, _, _, _, _, rfl, _⟩ := h; rfl)

  · obtain ⟨L, m, g, rfl, S, W, hg, q⟩ := h
    have nc6 := W.nc6
    have na5 := W.na5
    repeat wtm_at "lwst"
    refine new_l (by simp) fun l H1 hn e1 hl => ?_
    repeat wtm_at "lwst"
    refine fl_contexts T (S.up e1) ?_
    repeat wtm_at "lwst"
    refine go_forR (H0 := H) (n := m.nc) (by omega) e1 (fun i σ H1 => ∃ acc o1 o2 o3 o4, H1 l = some (.lst acc) ∧ All2 (Pe K H1) acc (possIn m g i 0) ∧ σ = [some (.ref L.a), some (.int (g : Int)), some (.ref l), o1, o2, o3, o4]) ⟨[], none, none, none, none, hl, .nil, rfl⟩ ?_ ?_
    · rintro i σ H2 hi e2 ⟨acc, o1, o2, o3, o4, h2, ha, rfl⟩
      repeat wtm_at "lwst"
      refine fl_actions T (S.up e2) ?_
      repeat wtm_at "lwst"
      refine go_forR (H0 := H) (n := m.na) (by omega) e2 (fun j σ H1 => ∃ acc o2 o3 o4, H1 l = some (.lst acc) ∧ All2 (Pe K H1) acc (possIn m g i j) ∧ σ = [some (.ref L.a), some (.int (g : Int)), some (.ref l), some (.int (i : Int)), o2, o3, o4]) ⟨acc, o2, o3, o4, h2, ha, rfl⟩ ?_ ?_
      · rintro j σ H3 hj e3 ⟨acc, o2, o3, o4, h3, ha, rfl⟩
        repeat wtm_at "lwst"
        refine ⟨L, m, g, i, j, rfl, S.up e3, W, hg, hi, hj, fun v H4 e4 hv4 => ?_⟩
        obtain ⟨cp, rfl, hcp⟩ := id hv4
        repeat wtm_at "lwst"
        refine cond_2 (fun b => ?_) (fun b => ?_)
        · have hpos : 0 < chance m g i j := (num_pos_iff _).mp (of_decide_eq_true b)
          have S4 := (S.up e3).up e4
          obtain ⟨qa, xs, ys, hx, hv, hq, hu⟩ := sta_rew S4 W hi hj
          repeat wtm_at "lwst"
          refine fl_tr T S4 ?_
          repeat wtm_at "lwst"
          refine st_ixL (SqL.of hx) (atI_nat hv) ?_
          repeat wtm_at "lwst"
          refine st_ixL (SqL.of hq) (atI_nat hu) ?_
          repeat wtm_at "lwst"
          refine new_t (K := K) (by simp) fun et H5 e5 het => ?_
          repeat wtm_at "lwst"
          refine bm_list (SqL.of (e5 _ _ (e4 _ _ h3))) ?_
          repeat wtm_at "lwst"
          refine ⟨L, m, i, rfl, S4.up e5, W, hi, fun u H6 e6 hu6 => ?_⟩
          repeat wtm_at "lwst"
          refine ⟨u, .ref cp, _, _, rfl, hu6, (hv4.up e5).up e6, bd_ctxP W hi, bd_chance W hg hi hj, fun y H7 e7 hy => ?_⟩
          repeat wtm_at "lwst"
          refine new_t (K := K) (by simp) fun pt H8 e8 hpt => ?_
          have h8 := e8 _ _ (e7 _ _ (e6 _ _ (e5 _ _ (e4 _ _ h3))))
          have e38 := (((e4.trans e5).trans e6).trans e7).trans e8
          have al := ha.len
          have bl := possIn_len m g i j
          have bl2 : i * m.na ≤ 6 * 5 := Nat.mul_le_mul (by omega) na5
          repeat wtm_at "lwst"
          refine st_append h8 (by omega) ?_
          repeat wtm_at "lwst"
          refine ⟨same_mut (e3.trans e38) hn, acc ++ [.ref pt], some (.int (j : Int)), some (.ref cp), some (.ref et), upd_same, ?_, rfl⟩
          rw [poss_more, possAt, if_pos hpos]
          refine All2.app (ha.imp fun _ _ z => (z.up e38).mut h8) (All2.one (Pe.mut h8 ⟨pt, y, .ref et, rfl, hpt, hy.up e8, et, .ref cp, rfl, sqT_up ((e6.trans e7).trans e8) het, hv4.up (((e5.trans e6).trans e7).trans e8)⟩))
        · have hnp : ¬ 0 < chance m g i j := fun z => of_decide_eq_false b ((num_pos_iff _).mpr z)
          repeat wtm_at "lwst"
          refine ⟨e3.trans e4, acc, some (.int (j : Int)), some (.ref cp), o4, e4 _ _ h3, ?_, rfl⟩
          rw [poss_more, possAt, if_neg hnp]
          show All2 (Pe K H4) acc (possIn m g i j ++ [])
          rw [List.append_nil]
          exact ha.imp fun _ _ z => z.up e4
      · rintro σ H3 e3 ⟨acc, o2, o3, o4, h3, ha, rfl⟩
        repeat wtm_at "lwst"
        rw [poss_next] at ha
        exact ⟨e3, acc, some (.int (i : Int)), o2, o3, o4, h3, ha, rfl⟩
    · rintro σ H2 e2 ⟨acc, o1, o2, o3, o4, h2, ha, rfl⟩
      repeat wtm_at "lwst"
      rw [poss_all] at ha
      exact q l H2 acc hn e2 h2 ha
def wgt (m : M) (k kind limit : Nat) (d : Rw × Ev) : Rw × Rw := (d.1, term m k kind limit d.2)
def sp_moments (K : PySem.W.Frag) (C : Addr) : Sp := fun vs H Q _ => ∃ (L : Lay) (m : M) (g k kind limit : Nat), vs = [.ref L.a, .int (g : Int), .int (k : Int), .int (kind : Int), .int (limit : Int)] ∧ St K C H L m ∧ Wf m ∧ g < 3 ∧ k < 3 ∧ limit ≤ 100000 ∧ ∀ v H', Same H H' → F2 K H' v (momMid m g k kind limit) (momSpread m g k kind limit) → Q v H'
abbrev s_moments : Stmt := top 74
theorem sc_moments : FnScope ["study", "logging", "policy", "kind", "limit", "weighted", "chance", "event", "middle", "spread", "value"] ["study", "logging", "policy", "kind", "limit"] (defScope s_moments) := ⟨rfl, rfl, rfl, by decide +kernel, rfl, by decide +kernel, by decide +kernel⟩
theorem ok_moments (T : Tx K mg az an aw d1 d2 d3 C) (h : Has K mg "moments" s_moments ["study", "logging", "policy", "kind", "limit"]) (O_possible_events : Ok P w K mg base "possible_events" 4 ["study", "logging"] (sp_possible_events K C)) (O_total : Ok P w K mg base "total" 4 ["quotients"] (sp_total K C)) (O_times : Ok P w K mg base "times" 3 ["one", "other"] (sp_times K C)) (O_term : Ok P w K mg base "term" 6 ["study", "policy", "kind", "limit", "event"] (sp_term K C)) (O_square : Ok P w K mg base "square" 4 ["one"] (sp_square K C)) (O_minus : Ok P w K mg base "minus" 3 ["one", "other"] (sp_minus K C)) :
    Ok P w K mg base "moments" 7 ["study", "logging", "policy", "kind", "limit"] (sp_moments K C) := by
  refine ok_of h sc_moments (fun vs H Q E h => ?_) (fun f cdv A outer s H vs Q E hr h => ⟨_, (pss_cons (ps_set (i := 5) sc_moments.nd rfl (Or.inl rfl) (pe_lst pa_nil))
      (pss_cons (ps_for PassesOwn.never rfl (pi_list (pe_go O_possible_events (hr.mono (by decide)) (by rfl) (pa_cons (pv 0) (pa_cons (pv 1) pa_nil)))) (pg_tupK (K := K) (n := 2) rfl rfl (pgs_cons (pg_name (i := 6) sc_moments.nd rfl (Or.inl rfl)) (pgs_cons (pg_name (i := 7) sc_moments.nd rfl (Or.inl rfl)) pgs_nil))) (pss_one (ps_expr (pe_bm PySem.F.plainAttrs_list PySem.F.slot_list_append PySem.F.type_list_append mt_append (pv 5) (pa_cons (pe_tup (pa_cons (pv 6) (pa_cons (pe_go O_term (hr.mono (by decide)) (by rfl) (pa_cons (pv 0) (pa_cons (pv 2) (pa_cons (pv 3) (pa_cons (pv 4) (pa_cons (pv 7) pa_nil)))))) pa_nil))) pa_nil)))))
      (pss_cons (ps_set (i := 8) sc_moments.nd rfl (Or.inr rfl) (pe_go O_total (hr.mono (by decide)) (by rfl) (pa_cons (pe_lc (own := [("chance", 6), ("value", 10)]) (by rfl) sc_moments.nd (pi_list (pv 5)) (blkOk_by (own := [("chance", 6), ("value", 10)]) (N := ["study", "logging", "policy", "kind", "limit", "weighted", "chance", "event", "middle", "spread", "value"]) (sc := defScope s_moments) (by decide +kernel)) (fun _ _ _ _ _ => (pg_tupK (K := K) (n := 2) rfl rfl (pgs_cons (pg_name (i := 6) sc_moments.nd rfl (Or.inl rfl)) (pgs_cons (pg_name (i := 10) sc_moments.nd rfl (Or.inl rfl)) pgs_nil)))) (fun _ _ _ _ _ => pts_nil) (fun _ _ _ _ _ => (pe_go O_times (hr.mono (by decide)) (by rfl) (pa_cons (pv 6) (pa_cons (pv 10) pa_nil))))) pa_nil)))
      (pss_cons (ps_set (i := 9) sc_moments.nd rfl (Or.inl rfl) (pe_go O_total (hr.mono (by decide)) (by rfl) (pa_cons (pe_lc (own := [("chance", 6), ("value", 10)]) (by rfl) sc_moments.nd (pi_list (pv 5)) (blkOk_by (own := [("chance", 6), ("value", 10)]) (N := ["study", "logging", "policy", "kind", "limit", "weighted", "chance", "event", "middle", "spread", "value"]) (sc := defScope s_moments) (by decide +kernel)) (fun _ _ _ _ _ => (pg_tupK (K := K) (n := 2) rfl rfl (pgs_cons (pg_name (i := 6) sc_moments.nd rfl (Or.inl rfl)) (pgs_cons (pg_name (i := 10) sc_moments.nd rfl (Or.inl rfl)) pgs_nil)))) (fun _ _ _ _ _ => pts_nil) (fun _ _ _ _ _ => (pe_go O_times (hr.mono (by decide)) (by rfl) (pa_cons (pv 6) (pa_cons (pe_go O_square (hr.mono (by decide)) (by rfl) (pa_cons (pe_go O_minus (hr.mono (by decide)) (by rfl) (pa_cons (pv 10) (pa_cons (pv 8) pa_nil))) pa_nil)) pa_nil))))) pa_nil)))
      (pss_one (ps_ret (pe_tup (pa_cons (pv 8) (pa_cons (pv 9) pa_nil))))))))), ?_⟩)
  · first | (obtain ⟨_, rfl, _⟩ := h; rfl) | (obtain ⟨_, _, rfl, _⟩ := h; rfl) | (obtain ⟨_, _, _, rfl, _⟩ := h; rfl) | (obtain ⟨_, _, _, _, rfl, _⟩ := h; rfl) | (obtain ⟨_, _, _, _, _, rfl, _⟩ := h; rfl) | (obtain ⟨_, _, _, _, _, _, rfl, _⟩ := h; rfl) | (obtain ⟨_, _, _, _, _, _, _, rfl, _⟩ := h; rfl) | (obtain ⟨_, _, _, _, _, _, _, _, rfl, _⟩ := h; rfl) | (obtain ⟨_, _, _, _, _, _, _, _, _, rfl, _⟩ := h; rfl) | (obtain ⟨_, _, _, _, _, _, _, _, _, _, rfl, _⟩ := h; rfl) | (obtain ⟨_, _, _, _, _, _, _, _, _, _, _, rfl, _⟩ := h; rfl) | (obtain ⟨_, _, _, _, _, _, _, _, _, _, _, _, rfl, _⟩ := h; rfl) | (obtain ⟨_, _, _, _, _, _, _, _, _, _, _, _, _, rfl, _⟩ := h; rfl)

  · obtain ⟨L, m, g, k, kind, limit, rfl, S, W, hg, hk, hlim, q⟩ := h
    have pl := @poss_len m g W
    repeat wtm_at "lwst"
    refine new_l (by simp) fun l H1 hn e1 hl => ?_
    repeat wtm_at "lwst"
    refine ⟨L, m, g, rfl, S.up e1, W, hg, fun p H2 xs hpn e2 hp hxs => ?_⟩
    have hlp : p ≠ l := fun z => by rw [z, hl] at hpn; cases hpn
    have h2l := e2 _ _ hl
    have e02 : Same H (hide H2 l) := same_hide_of (e1.trans e2) hn
    have S2 := S.up e02
    refine go_forL (H0 := hide H2 l) (xs := xs) same_hide (SqL.of (by rw [hide_ne hlp]; exact hp)) (fun i σ H3 => ∃ acc o1 o2, H3 l = some (.lst acc) ∧ All2 (Pp K H3) acc (((possible m g).map (wgt m k kind limit)).take i) ∧ σ = [some (.ref L.a), some (.int (g : Int)), some (.int (k : Int)), some (.int (kind : Int)), some (.int (limit : Int)), some (.ref l), o1, o2, none, none, none]) ⟨[], none, none, h2l, .nil, rfl⟩ ?_ ?_
    · rintro i x σ H3 hi e3 ⟨acc, o1, o2, h3, ha, rfl⟩
      obtain ⟨d, hd, hq0⟩ := hxs.get hi
      have hq := (hq0.hide h2l).up e3
      obtain ⟨tp, a, b, rfl, htp, hfa, hfb⟩ := id hq
      have po := poss_ok W hg (mem_ix hd)
      repeat wtm_at "lwst"
      refine bm_list (SqL.of h3) ?_
      repeat wtm_at "lwst"
      refine ⟨L, m, k, kind, limit, b, d.2, rfl, S2.up e3, W, hk, hlim, hfb, po.1, fun v H4 e4 hv => ?_⟩
      repeat wtm_at "lwst"
      refine new_t (K := K) (by simp) fun wp H5 e5 hwp => ?_
      have h5 := e5 _ _ (e4 _ _ h3)
      have al := ha.len
      rw [List.length_take, List.length_map] at al
      repeat wtm_at "lwst"
      refine st_append h5 (by omega) ?_
      repeat wtm_at "lwst"
      refine ⟨same_mut ((e3.trans e4).trans e5) hide_at, acc ++ [.ref wp], some a, some b, upd_same, ?_, rfl⟩
      rw [List.take_succ, List.getElem?_map, hd]
      exact All2.app (ha.imp fun _ _ z => ((z.up e4).up e5).mut h5) (All2.one (Pp.mut h5 ⟨wp, a, v, rfl, hwp, (hfa.up e4).up e5, hv.up e5⟩))
    · rintro σ H3 e3 ⟨acc, o1, o2, h3, ha, rfl⟩
      rw [hxs.len, ← List.length_map (f := wgt m k kind limit), List.take_length] at ha
      have al : acc.length ≤ 100000 := by
        rw [ha.len, List.length_map]
        omega
      have S3 := S2.up e3
      repeat wtm_at "lwst"
      refine go_lcL (R := RF K) (zs := ((possible m g).map (wgt m k kind limit)).map fun z => z.1 * z.2) (map_len ha) al (Same.refl H3) (SqL.of h3) RF.up RF.mu (fun D i x z H4 hi hz hD e4 hacc Q' kq => ?_) (fun lp H4 ws hlp e4 h4 a4 => ?_)
      · obtain ⟨y, hy, hq0⟩ := ha.get hi
        obtain rfl := map_at hz hy
        obtain ⟨d, hd, rfl⟩ : ∃ d, (possible m g)[i]? = some d ∧ y = wgt m k kind limit d := by
          rw [List.getElem?_map] at hy
          obtain ⟨d, h1, h2⟩ := Option.map_eq_some_iff.mp hy
          exact ⟨d, h1, h2.symm⟩
        have hq := hq0.up e4
        obtain ⟨tp, a, b, rfl, htp, hfa, hfb⟩ := id hq
        have po := poss_ok W hg (mem_ix hd)
        repeat wtm_at "lwst"
        refine ⟨rfl, ?_⟩
        repeat wtm_at "lwst"
        exact ⟨a, b, _, _, rfl, hfa, hfb, po.2, bd_term W hk hlim po.1, kq⟩
      · repeat wtm_at "lwst"
        have em : ((possible m g).map (wgt m k kind limit)).map (fun z => z.1 * z.2) = (possible m g).map fun d => d.1 * term m k kind limit d.2 := by
          rw [List.map_map]
          rfl
        rw [em] at a4
        refine ⟨_, _, rfl, fs_of h4 a4, ps_mid W hg hk hlim, fun mid H5 e5 hmid => ?_⟩
        have hm5 : Fq K H5 mid (momMid m g k kind limit) := hmid
        have e35 := e4.trans e5
        repeat wtm_at "lwst"
        refine go_lcL (R := RF K) (zs := ((possible m g).map (wgt m k kind limit)).map fun z => z.1 * ((z.2 - momMid m g k kind limit) * (z.2 - momMid m g k kind limit))) (map_len ha) al (Same.refl H5) (SqL.of (e35 _ _ h3)) RF.up RF.mu (fun D i x z H6 hi hz hD e6 hacc Q' kq => ?_) (fun lp2 H6 ws2 hlp2 e6 h6 a6 => ?_)
        · obtain ⟨y, hy, hq0⟩ := ha.get hi
          obtain rfl := map_at hz hy
          obtain ⟨d, hd, rfl⟩ : ∃ d, (possible m g)[i]? = some d ∧ y = wgt m k kind limit d := by
            rw [List.getElem?_map] at hy
            obtain ⟨d, h1, h2⟩ := Option.map_eq_some_iff.mp hy
            exact ⟨d, h1, h2.symm⟩
          have hq := (hq0.up e35).up e6
          obtain ⟨tp, a, b, rfl, htp, hfa, hfb⟩ := id hq
          have po := poss_ok W hg (mem_ix hd)
          have bd := @bd_dev m k kind limit W g hg hk hlim d (mem_ix hd)
          repeat wtm_at "lwst"
          refine ⟨rfl, ?_⟩
          repeat wtm_at "lwst"
          refine ⟨b, mid, _, _, rfl, hfb, hm5.up e6, bd_term W hk hlim po.1, (ps_mid W hg hk hlim).all, fun y1 H7 e7 hy1 => ?_⟩
          repeat wtm_at "lwst"
          refine ⟨y1, _, rfl, hy1, bd.1, fun y2 H8 e8 hy2 => ?_⟩
          repeat wtm_at "lwst"
          exact ⟨a, y2, _, _, rfl, (hfa.up e7).up e8, hy2, po.2, bd.2, fun y3 H9 e9 hy3 => kq y3 H9 ((e7.trans e8).trans e9) hy3⟩
        · repeat wtm_at "lwst"
          have em2 : ((possible m g).map (wgt m k kind limit)).map (fun z => z.1 * ((z.2 - momMid m g k kind limit) * (z.2 - momMid m g k kind limit))) = (possible m g).map fun d => d.1 * ((term m k kind limit d.2 - momMid m g k kind limit) * (term m k kind limit d.2 - momMid m g k kind limit)) := by
            rw [List.map_map]
            rfl
          rw [em2] at a6
          refine ⟨_, _, rfl, fs_of h6 a6, ps_spread W hg hk hlim, fun sp H7 e7 hsp => ?_⟩
          repeat wtm_at "lwst"
          refine new_t (K := K) (by simp) fun rt H8 e8 hrt => ?_
          exact q _ H8 ((((((e02.trans e3).trans e35).trans e6).trans e7).trans e8)) ⟨rt, mid, sp, rfl, hrt, ((hm5.up e6).up e7).up e8, hsp.up e8⟩
end
end Lw

namespace Lw
open PySem PySem.Spec PyProof.Rows L2
local macro_rules | `(tactic| wtm_at "lwsame") => `(tactic| first
  | assumption | exact Same.refl _ | (refine Same.trans (by assumption) ?_; wtm_at "lwsame"))
local macro_rules | `(tactic| wtm_at "lwup") => `(tactic| first
  | assumption
  | ((with_reducible show SqT _ _ _ _); first | (refine sqT_up ?_ (by assumption); wtm_at "lwsame") | (refine KT.sq ?_ _; assumption) | (refine SqT.of ?_; wtm_at "lwup"))
  | ((with_reducible show SqL _ _ _ _); first | (refine sqL_up ?_ (by assumption); wtm_at "lwsame") | (refine SqL.of ?_; wtm_at "lwup"))
  | ((with_reducible show _ = some _); refine (show Same _ _ by wtm_at "lwsame") _ _ (by assumption))
  | ((with_reducible show Fq _ _ _ _); refine Fq.up ?_ (by assumption); wtm_at "lwsame")
  | ((with_reducible show Fs _ _ _ _); refine Fs.up ?_ (by assumption); wtm_at "lwsame")
  | ((with_reducible show Is _ _ _ _); refine Is.up ?_ (by assumption); wtm_at "lwsame")
  | ((with_reducible show Ns _ _ _ _); refine Ns.up ?_ (by assumption); wtm_at "lwsame")
  | ((with_reducible show Eq4 _ _ _ _); refine Eq4.up ?_ (by assumption); wtm_at "lwsame")
  | ((with_reducible show Evs _ _ _ _); refine Evs.up ?_ (by assumption); wtm_at "lwsame"))
local macro_rules | `(tactic| wtm_at "lwst2") => `(tactic| first
  | (with_reducible refine st_drop ?_)
  | (with_reducible refine st_par ?_)
  | (with_reducible refine st_par2 ?_)
  | (with_reducible refine st_un ?_)
  | (with_reducible refine st_rU ?_)
  | (with_reducible refine st_B ?_)
  | (with_reducible refine st_not ?_)
  | (with_reducible refine st_and ?_)
  | (with_reducible refine st_or ?_)
  | (with_reducible refine st_andV ?_)
  | (with_reducible refine st_orV ?_)
  | (with_reducible refine st_isB2 ?_)
  | (with_reducible refine st_ifE ?_)
  | (with_reducible refine st_yes ?_)
  | (with_reducible refine st_forL ?_)
  | (with_reducible refine st_forR ?_)
  | (with_reducible refine st_lcL ?_)
  | (with_reducible refine st_lcR ?_)
  | (with_reducible refine st_lcZ ?_)
  | (with_reducible refine st_bm ?_)
  | (with_reducible refine st_sfld ?_)
  | (with_reducible refine st_gsub ?_)
  | (with_reducible refine st_meth ?_)
  | (with_reducible refine st_sl ?_)
  | (with_reducible refine st_nopart ?_)
  | (with_reducible refine st_part ?_)
  | (with_reducible refine st_isI ?_)
  | (with_reducible refine st_rev ?_)
  | (with_reducible refine st_ckw ?_)
  | (with_reducible refine st_abs ?_)
  | ((with_reducible refine st_eq ?hh ?_); (case hh => exact rfl))
  | ((with_reducible refine st_ne ?hh ?_); (case hh => exact rfl))
  | ((with_reducible refine st_ixT (v := ?vv) (xs := ?xx) ?hh ?hi ?_); (case hh => wtm_at "lwup"); (case hi => exact rfl))
  | ((with_reducible refine st_gtup (xs := ?xx) ?hh ?hi ?_); (case hh => wtm_at "lwup"); (case hi => exact rfl)))
local macro_rules | `(tactic| wtm_at "lwst") => `(tactic| first
  | (with_reducible refine st_cons ?_)
  | ((with_reducible refine st_var (v := ?vv) ?hh ?_); (case hh => exact rfl))
  | (with_reducible refine st_nil ?_)
  | (with_reducible refine st_call ?_)
  | (with_reducible refine st_gname ?_)
  | (with_reducible refine st_c ?_)
  | (with_reducible refine st_seq ?_)
  | (with_reducible refine st_op ?_)
  | (with_reducible refine st_ret ?_)
  | (with_reducible refine st_lst ?_)
  | (with_reducible refine st_gcons ?_)
  | (with_reducible refine st_asg ?_)
  | (with_reducible refine st_isB ?_)
  | (with_reducible refine st_ifS ?_)
  | (with_reducible refine st_nx0 ?_)
  | (with_reducible refine st_test ?_)
  | (with_reducible refine st_fld ?_)
  | (with_reducible refine st_nx ?_)
  | (with_reducible refine st_rI0 ?_)
  | (with_reducible refine st_callB ?_)
  | (with_reducible refine st_gnil ?_)
  | (with_reducible refine st_tup ?_)
  | wtm_at "lwst2")

section
variable {P : Program} {w : World} {K : PySem.W.Frag} {mg : Str → Option Value} {base : Heap} {az an aw d1 d2 d3 C : Addr}

def unsIn (m : M) (g k i j : Nat) : List (Nat × Nat) := ((List.range i).flatMap fun c => ((List.range m.na).filter (unsupAt m g k c)).map fun a => (c, a)) ++ ((List.range j).filter (unsupAt m g k i)).map fun a => (i, a)
theorem uns_more {m : M} {g k i j : Nat} : unsIn m g k i (j + 1) = unsIn m g k i j ++ (if unsupAt m g k i j = true then [(i, j)] else []) := by
  unfold unsIn
  rw [List.range_succ, List.filter_append, List.map_append, List.append_assoc]
  congr 2
  rw [List.filter_cons]
  split <;> rfl
theorem uns_next {m : M} {g k i : Nat} : unsIn m g k i m.na = unsIn m g k (i + 1) 0 := by
  unfold unsIn
  rw [List.range_succ, List.flatMap_append]
  simp
theorem uns_all {m : M} {g k : Nat} : unsIn m g k m.nc 0 = unsup m g k := by
  unfold unsIn unsup
  simp
theorem unsIn_len (m : M) (g k i j : Nat) : (unsIn m g k i j).length ≤ i * m.na + j := by
  unfold unsIn
  rw [List.length_append]
  have h1 : ((List.range i).flatMap fun c => ((List.range m.na).filter (unsupAt m g k c)).map fun a => (c, a)).length ≤ i * m.na := by
    induction i with
    | zero => simp
    | succ i ih =>
      rw [List.range_succ, List.flatMap_append, List.length_append]
      have h2 : (([i] : List Nat).flatMap fun c => ((List.range m.na).filter (unsupAt m g k c)).map fun a => (c, a)).length ≤ m.na := by
        simp only [List.flatMap_cons, List.flatMap_nil, List.append_nil, List.length_map]
        exact Nat.le_trans (List.length_filter_le _ _) (by simp)
      rw [Nat.add_mul, Nat.one_mul]
      omega
  have h2 : (((List.range j).filter (unsupAt m g k i)).map fun a => (i, a)).length ≤ j := by
    rw [List.length_map]
    exact Nat.le_trans (List.length_filter_le _ _) (by simp)
  omega
theorem pairs_len (l : List (Nat × Nat)) : (pairs l).length = 2 * l.length := by
  unfold pairs
  induction l with
  | nil => rfl
  | cons x r ih =>
    rw [List.flatMap_cons, List.length_append, ih]
    show 2 + 2 * r.length = 2 * (r.length + 1)
    omega
theorem num_zero_iff (y : Rw) : y.num = 0 ↔ y = 0 := Rat.num_eq_zero
def sp_unsupported_pairs (K : PySem.W.Frag) (C : Addr) : Sp := fun vs H Q _ => ∃ (L : Lay) (m : M) (g k : Nat), vs = [.ref L.a, .int (g : Int), .int (k : Int)] ∧ St K C H L m ∧ Wf m ∧ g < 3 ∧ k < 3 ∧ ∀ p H', Same H H' → H' p = some (.lst ((pairs (unsup m g k)).map V.int)) → Q (.ref p) H'
abbrev s_unsupported_pairs : Stmt := top 75
theorem sc_unsupported_pairs : FnScope ["study", "logging", "policy", "found", "context", "action", "wanted", "logged"] ["study", "logging", "policy"] (defScope s_unsupported_pairs) := ⟨rfl, rfl, rfl, by decide +kernel, rfl, by decide +kernel, by decide +kernel⟩
theorem ok_unsupported_pairs (T : Tx K mg az an aw d1 d2 d3 C) (h : Has K mg "unsupported_pairs" s_unsupported_pairs ["study", "logging", "policy"]) (O_probability : Ok P w K mg base "probability" 3 ["study", "policy", "context", "action"] (sp_probability K C)) :
    Ok P w K mg base "unsupported_pairs" 4 ["study", "logging", "policy"] (sp_unsupported_pairs K C) := by
  refine ok_of h sc_unsupported_pairs (fun vs H Q E h => ?_) (fun f cdv A outer s H vs Q E hr h => ⟨_, (pss_cons (ps_set (i := 3) sc_unsupported_pairs.nd rfl (Or.inl rfl) (pe_lst pa_nil))
      (pss_cons (ps_for PassesOwn.never rfl (pi_range1 (by rfl) T.b_range (pa_cons (pe_fldK (K := K) rfl (pv 0) rfl) pa_nil)) (pg_name (i := 4) sc_unsupported_pairs.nd rfl (Or.inl rfl)) (pss_one (ps_for PassesOwn.never rfl (pi_range1 (by rfl) T.b_range (pa_cons (pe_fldK (K := K) rfl (pv 0) rfl) pa_nil)) (pg_name (i := 5) sc_unsupported_pairs.nd rfl (Or.inl rfl)) (pss_cons (ps_set (i := 6) sc_unsupported_pairs.nd rfl (Or.inl rfl) (pe_go O_probability (hr.mono (by decide)) (by rfl) (pa_cons (pv 0) (pa_cons (pv 2) (pa_cons (pv 4) (pa_cons (pv 5) pa_nil))))))
      (pss_cons (ps_set (i := 7) sc_unsupported_pairs.nd rfl (Or.inl rfl) (pe_go O_probability (hr.mono (by decide)) (by rfl) (pa_cons (pv 0) (pa_cons (pv 1) (pa_cons (pv 4) (pa_cons (pv 5) pa_nil))))))
      (pss_one (ps_if (PW.pt (pw_and (pt_cmpR op_gt (pe_ix (ix_tupK (K := K) rfl) (pv 6) pe_int (fun _ _ => rfl)) pe_int (nomark _)) (pw_and1 (pt_cmpR op_eq (pe_ix (ix_tupK (K := K) rfl) (pv 7) pe_int (fun _ _ => rfl)) pe_int (nomark _))))) (pss_one (ps_set (i := 3) sc_unsupported_pairs.nd rfl (Or.inl rfl) (pe_op op_cat (pv 3) (pe_lst (pa_cons (pv 4) (pa_cons (pv 5) pa_nil)))))) pss_nil)))))))
      (pss_one (ps_ret (pv 3))))), ?_⟩)
  · first | (obtain ⟨_, rfl, _⟩ := h; rfl) | (obtain ⟨_, _, rfl, _⟩ := h; rfl) | (obtain ⟨_, _, _, rfl, _⟩ := h; rfl) | (obtain ⟨_, _, _, _, rfl, _⟩ := h; rfl) | (obtain ⟨_, _, _, _, _, rfl, _⟩ := h; rfl) | (obtain ⟨_, _, _, _, _, _, rfl, _⟩ := h; rfl) | (obtain ⟨_, _, _, _, _, _, _, rfl, _⟩ := h; rfl) | (obtain ⟨_, _, _, _, _, _, _, _, rfl, _⟩ := h; rfl) | (obtain ⟨_, _, _, _, _, _, _, _, _, rfl, _⟩ := h; rfl) | (obtain ⟨_, _, _, _, _, _, _, _, _, _, rfl, _⟩ := h; rfl) | (obtain ⟨_, _, _, _, _, _, _, _, _, _, _, rfl, _⟩ := h; rfl) | (obtain ⟨_, _, _, _, _, _, _, _, _, _, _, _, rfl, _⟩ := h; rfl) | (obtain ⟨_, _, _, _, _, _, _, _, _, _, _, _, _, rfl, _⟩ := h; rfl)

  · obtain ⟨L, m, g, k, rfl, S, W, hg, hk, q⟩ := h
    have nc6 := W.nc6
    have na5 := W.na5
    repeat wtm_at "lwst"
    refine new_l (by simp) fun l H1 hn e1 hl => ?_
    repeat wtm_at "lwst"
    refine fl_contexts T (S.up e1) ?_
    repeat wtm_at "lwst"
    refine go_forR (H0 := H) (n := m.nc) (by omega) e1 (fun i σ H1 => ∃ l o1 o2 o3 o4, H1 l = some (.lst ((pairs (unsIn m g k i 0)).map V.int)) ∧ σ = [some (.ref L.a), some (.int (g : Int)), some (.int (k : Int)), some (.ref l), o1, o2, o3, o4]) ⟨l, none, none, none, none, hl, rfl⟩ ?_ ?_
    · rintro i σ H2 hi e2 ⟨l, o1, o2, o3, o4, h2, rfl⟩
      repeat wtm_at "lwst"
      refine fl_actions T (S.up e2) ?_
      repeat wtm_at "lwst"
      refine go_forR (H0 := H) (n := m.na) (by omega) e2 (fun j σ H1 => ∃ l o2 o3 o4, H1 l = some (.lst ((pairs (unsIn m g k i j)).map V.int)) ∧ σ = [some (.ref L.a), some (.int (g : Int)), some (.int (k : Int)), some (.ref l), some (.int (i : Int)), o2, o3, o4]) ⟨l, o2, o3, o4, h2, rfl⟩ ?_ ?_
      · rintro j σ H3 hj e3 ⟨l, o2, o3, o4, h3, rfl⟩
        repeat wtm_at "lwst"
        refine ⟨L, m, k, i, j, rfl, S.up e3, W, hk, hi, hj, fun v H4 e4 hv => ?_⟩
        repeat wtm_at "lwst"
        refine ⟨L, m, g, i, j, rfl, (S.up e3).up e4, W, hg, hi, hj, fun u H5 e5 hu => ?_⟩
        have h5 := e5 _ _ (e4 _ _ h3)
        have e35 := (e3.trans e4).trans e5
        obtain ⟨vp, rfl, hvp⟩ := hv.up e5
        obtain ⟨up, rfl, hup⟩ := hu
        have fin : ∀ b : Bool, unsupAt m g k i j = b → b = false → ∃ l o2 o3 o4, H5 l = some (.lst ((pairs (unsIn m g k i (j + 1))).map V.int)) ∧ [some (V.ref L.a), some (.int (g : Int)), some (.int (k : Int)), some (.ref l), some (.int (i : Int)), o2, o3, o4] = [some (V.ref L.a), some (.int (g : Int)), some (.int (k : Int)), some (.ref l), some (.int (i : Int)), some (.int (j : Int)), some (.ref vp), some (.ref up)] := fun b hb hf => by
          refine ⟨l, _, _, _, ?_, rfl⟩
          rw [uns_more, hb, hf, if_neg (by simp), List.append_nil]
          exact h5
        have bl := unsIn_len m g k i j
        have bl2 : i * m.na ≤ 6 * 5 := Nat.mul_le_mul (by omega) na5
        repeat wtm_at "lwst"
        refine cond_2 (fun b1 => ?_) (fun b1 => ?_)
        · repeat wtm_at "lwst"
          refine cond_2 (fun b2 => ?_) (fun b2 => ?_)
          · have hu : unsupAt m g k i j = true := by
              unfold unsupAt
              rw [Bool.and_eq_true]
              exact ⟨decide_eq_true ((num_pos_iff _).mp (of_decide_eq_true b1)), decide_eq_true ((num_zero_iff _).mp (V.int.inj (of_decide_eq_true b2)))⟩
            repeat wtm_at "lwst"
            refine new_l (by simp) fun dl H6 hdn e6 hdl => ?_
            repeat wtm_at "lwst"
            refine st_cat (e6 _ _ h5) hdl (by rw [List.length_map, pairs_len]; simp; omega) fun nl H7 hnn e7 hnl => ?_
            repeat wtm_at "lwst"
            refine ⟨((e35.trans e6).trans e7), nl, some (.int (j : Int)), some (.ref vp), some (.ref up), ?_, rfl⟩
            rw [uns_more, hu, if_pos rfl]
            unfold pairs
            rw [List.flatMap_append, List.map_append]
            exact hnl
          · have hu : unsupAt m g k i j = false := by
              unfold unsupAt
              rw [Bool.and_eq_false_iff]
              exact .inr (decide_eq_false fun z => of_decide_eq_false b2 (by rw [(num_zero_iff _).mpr z]))
            repeat wtm_at "lwst"
            obtain ⟨l', a1, a2, a3, h6, h7⟩ := fin _ rfl hu
            exact ⟨e35, l, some (.int (j : Int)), some (.ref vp), some (.ref up), by rw [uns_more, hu, if_neg (by simp), List.append_nil]; exact h5, rfl⟩
        · have hu : unsupAt m g k i j = false := by
            unfold unsupAt
            rw [Bool.and_eq_false_iff]
            exact .inl (decide_eq_false fun z => of_decide_eq_false b1 ((num_pos_iff _).mpr z))
          repeat wtm_at "lwst"
          exact ⟨e35, l, some (.int (j : Int)), some (.ref vp), some (.ref up), by rw [uns_more, hu, if_neg (by simp), List.append_nil]; exact h5, rfl⟩
      · rintro σ H3 e3 ⟨l, o2, o3, o4, h3, rfl⟩
        repeat wtm_at "lwst"
        rw [uns_next] at h3
        exact ⟨e3, l, some (.int (i : Int)), o2, o3, o4, h3, rfl⟩
    · rintro σ H2 e2 ⟨l, o1, o2, o3, o4, h2, rfl⟩
      repeat wtm_at "lwst"
      rw [uns_all] at h2
      exact q l H2 e2 h2
def sp_next_seed (K : PySem.W.Frag) (C : Addr) : Sp := fun vs H Q _ => ∃ s : Nat, vs = [.int (s : Int)] ∧ s ≤ 4294967295 ∧ Q (.int ((nextSeed s : Nat) : Int)) H
abbrev s_next_seed : Stmt := top 76
theorem sc_next_seed : FnScope ["seed"] ["seed"] (defScope s_next_seed) := ⟨rfl, rfl, rfl, by decide +kernel, rfl, by decide +kernel, by decide +kernel⟩
theorem ok_next_seed (T : Tx K mg az an aw d1 d2 d3 C) (h : Has K mg "next_seed" s_next_seed ["seed"]) :
    Ok P w K mg base "next_seed" 1 ["seed"] (sp_next_seed K C) := by
  refine ok_of h sc_next_seed (fun vs H Q E h => ?_) (fun f cdv A outer s H vs Q E hr h => ⟨_, (pss_one (ps_ret (pe_op op_mod (pe_op op_add (pe_op op_mulW (pe_globI (by rfl) T.m_FACTOR) (pv 0)) (pe_globI (by rfl) T.m_STEP)) (pe_globI (by rfl) T.m_SEEDS)))), ?_⟩)
  · first | (obtain ⟨_, rfl, _⟩ := h; rfl) | (obtain ⟨_, _, rfl, _⟩ := h; rfl) | (obtain ⟨_, _, _, rfl, _⟩ := h; rfl) | (obtain ⟨_, _, _, _, rfl, _⟩ := h; rfl) | (obtain ⟨_, _, _, _, _, rfl, _⟩ := h; rfl) | (obtain ⟨_, _, _, _, _, _, rfl, _⟩ := h; rfl) | (obtain ⟨_, _, _, _, _, _, _, rfl, _⟩ := h; rfl) | (obtain ⟨_, _, _, _, _, _, _, _, rfl, _⟩ := h; rfl) | (obtain ⟨_, _, _, _, _, _, _, _, _, rfl, _⟩ := h; rfl) | (obtain ⟨_, _, _, _, _, _, _, _, _, _, rfl, _⟩ := h; rfl) | (obtain ⟨_, _, _, _, _, _, _, _, _, _, _, rfl, _⟩ := h; rfl) | (obtain ⟨_, _, _, _, _, _, _, _, _, _, _, _, rfl, _⟩ := h; rfl) | (obtain ⟨_, _, _, _, _, _, _, _, _, _, _, _, _, rfl, _⟩ := h; rfl)

  · obtain ⟨s, rfl, hs, q⟩ := h
    repeat wtm_at "lwst"
    refine st_rI (by
      unfold CMulW
      rw [Int.natAbs_natCast]
      have h1 : s.log2 ≤ (4294967295 : Nat).log2 := log2_mono hs
      have h2 : (4294967295 : Nat).log2 = 31 := by decide +kernel
      have h3 : (1103515245 : Int).natAbs.log2 = 30 := by decide +kernel
      omega) ?_
    repeat wtm_at "lwst"
    refine st_rI (by decide) ?_
    repeat wtm_at "lwst"
    have e : ((nextSeed s : Nat) : Int) = ((1103515245 * (s : Int) + 12345) % 2147483648) := by
      unfold nextSeed
      rw [Int.natCast_emod, Int.natCast_add, Int.natCast_mul]
      rfl
    rw [e] at q
    exact q
theorem next_lt (s : Nat) : nextSeed s ≤ 4294967295 := by
  unfold nextSeed
  have := Nat.mod_lt (1103515245 * s + 12345) (show 2147483648 > 0 by decide)
  omega
theorem drawN_succ (l : List Int) (i : Nat) (st : Int × Nat) : drawN l (i + 1) st = drawStep l (drawN l i st) := by
  induction i generalizing st with
  | zero => rfl
  | succ i ih =>
    show drawN l (i + 1) (drawStep l st) = _
    rw [ih]
    rfl
theorem drawN_seed (l : List Int) (i : Nat) (st : Int × Nat) (h : st.2 ≤ 4294967295) : (drawN l i st).2 ≤ 4294967295 := by
  cases i with
  | zero => exact h
  | succ i =>
    rw [drawN_succ]
    exact next_lt _
def sp_resampled_sum (K : PySem.W.Frag) (C : Addr) : Sp := fun vs H Q _ => ∃ (a : V) (ns : List Int) (s : Nat), vs = [a, .int (s : Int)] ∧ Is K H a ns ∧ ns.length ≤ 40 ∧ s ≤ 4294967295 ∧ ∀ p H', Same H H' → SqT K H' p [.int (drawN ns ns.length (0, s)).1, .int (((drawN ns ns.length (0, s)).2 : Nat) : Int)] → Q (.ref p) H'
abbrev s_resampled_sum : Stmt := top 77
theorem sc_resampled_sum : FnScope ["numbers", "seed", "found", "draw"] ["numbers", "seed"] (defScope s_resampled_sum) := ⟨rfl, rfl, rfl, by decide +kernel, rfl, by decide +kernel, by decide +kernel⟩
theorem ok_resampled_sum (T : Tx K mg az an aw d1 d2 d3 C) (h : Has K mg "resampled_sum" s_resampled_sum ["numbers", "seed"]) (O_next_seed : Ok P w K mg base "next_seed" 1 ["seed"] (sp_next_seed K C)) :
    Ok P w K mg base "resampled_sum" 2 ["numbers", "seed"] (sp_resampled_sum K C) := by
  refine ok_of h sc_resampled_sum (fun vs H Q E h => ?_) (fun f cdv A outer s H vs Q E hr h => ⟨_, (pss_cons (ps_set (i := 2) sc_resampled_sum.nd rfl (Or.inl rfl) pe_int)
      (pss_cons (ps_for PassesOwn.never rfl (pi_range1 (by rfl) T.b_range (pa_cons (pe_callB (cb_lenK (K := K) rfl) (by rfl) T.b_len PySem.boot_len (pa_cons (pv 0) pa_nil)) pa_nil)) (pg_name (i := 3) sc_resampled_sum.nd rfl (Or.inl rfl)) (pss_cons (ps_set (i := 1) sc_resampled_sum.nd rfl (Or.inl rfl) (pe_go O_next_seed (hr.mono (by decide)) (by rfl) (pa_cons (pv 1) pa_nil)))
      (pss_one (ps_set (i := 2) sc_resampled_sum.nd rfl (Or.inl rfl) (pe_op op_add (pv 2) (pe_ix (ix_listK (K := K) rfl) (pv 0) (pe_op op_mod (pe_op op_fdivW (pv 1) (pe_globI (by rfl) T.m_PART)) (pe_callB (cb_lenK (K := K) rfl) (by rfl) T.b_len PySem.boot_len (pa_cons (pv 0) pa_nil))) (fun _ _ => rfl)))))))
      (pss_one (ps_ret (pe_tup (pa_cons (pv 2) (pa_cons (pv 1) pa_nil))))))), ?_⟩)
  · first | (obtain ⟨_, rfl, _⟩ := h; rfl) | (obtain ⟨_, _, rfl, _⟩ := h; rfl) | (obtain ⟨_, _, _, rfl, _⟩ := h; rfl) | (obtain ⟨_, _, _, _, rfl, _⟩ := h; rfl) | (obtain ⟨_, _, _, _, _, rfl, _⟩ := h; rfl) | (obtain ⟨_, _, _, _, _, _, rfl, _⟩ := h; rfl) | (obtain ⟨_, _, _, _, _, _, _, rfl, _⟩ := h; rfl) | (obtain ⟨_, _, _, _, _, _, _, _, rfl, _⟩ := h; rfl) | (obtain ⟨_, _, _, _, _, _, _, _, _, rfl, _⟩ := h; rfl) | (obtain ⟨_, _, _, _, _, _, _, _, _, _, rfl, _⟩ := h; rfl) | (obtain ⟨_, _, _, _, _, _, _, _, _, _, _, rfl, _⟩ := h; rfl) | (obtain ⟨_, _, _, _, _, _, _, _, _, _, _, _, rfl, _⟩ := h; rfl) | (obtain ⟨_, _, _, _, _, _, _, _, _, _, _, _, _, rfl, _⟩ := h; rfl)

  · obtain ⟨a, ns, s, rfl, ⟨p, rfl, hp⟩, h40, hs, q⟩ := h
    repeat wtm_at "lwst"
    refine st_len hp ?_
    repeat wtm_at "lwst"
    rw [List.length_map]
    refine go_forR (H0 := H) (n := ns.length) (by omega) (Same.refl H) (fun i σ H1 => H1 = H ∧ ∃ o, σ = [some (.ref p), some (.int (((drawN ns i (0, s)).2 : Nat) : Int)), some (.int (drawN ns i (0, s)).1), o]) ⟨rfl, none, rfl⟩ ?_ ?_
    · rintro i σ H1 hi e ⟨rfl, o, rfl⟩
      have hseed := drawN_seed ns i (0, s) hs
      repeat wtm_at "lwst"
      refine ⟨_, rfl, hseed, ?_⟩
      repeat wtm_at "lwst"
      refine st_rI ⟨by decide, by decide +kernel⟩ ?_
      repeat wtm_at "lwst"
      refine st_len hp ?_
      rw [List.length_map]
      repeat wtm_at "lwst"
      refine st_rI (by omega) ?_
      repeat wtm_at "lwst"
      have el : ∀ t : Nat, ((t : Int) / 65536 % ((ns.length : Nat) : Int)) = ((t / 65536 % ns.length : Nat) : Int) := fun t => by
        rw [Int.natCast_emod, Int.natCast_ediv]
        rfl
      rw [el]
      have lt : nextSeed (drawN ns i (0, s)).2 / 65536 % ns.length < ns.length := Nat.mod_lt _ (by omega)
      refine st_ixL (v := .int (ns.getD (nextSeed (drawN ns i (0, s)).2 / 65536 % ns.length) 0)) hp (atI_nat (by rw [List.getElem?_map, List.getElem?_eq_getElem lt, List.getD_eq_getElem?_getD, List.getElem?_eq_getElem lt]; rfl)) ?_
      repeat wtm_at "lwst"
      refine ⟨Same.refl _, rfl, some (.int (i : Int)), ?_⟩
      rw [drawN_succ]
      rfl
    · rintro σ H1 e ⟨rfl, o, rfl⟩
      repeat wtm_at "lwst"
      exact new_t (K := K) (by simp) fun tp H2 e2 htp => q tp H2 e2 htp
end
end Lw

namespace Lw
open PySem PySem.Spec PyProof.Rows L2
local macro_rules | `(tactic| wtm_at "lwsame") => `(tactic| first
  | assumption | exact Same.refl _ | (refine Same.trans (by assumption) ?_; wtm_at "lwsame"))
local macro_rules | `(tactic| wtm_at "lwup") => `(tactic| first
  | assumption
  | ((with_reducible show SqT _ _ _ _); first | (refine sqT_up ?_ (by assumption); wtm_at "lwsame") | (refine KT.sq ?_ _; assumption) | (refine SqT.of ?_; wtm_at "lwup"))
  | ((with_reducible show SqL _ _ _ _); first | (refine sqL_up ?_ (by assumption); wtm_at "lwsame") | (refine SqL.of ?_; wtm_at "lwup"))
  | ((with_reducible show _ = some _); refine (show Same _ _ by wtm_at "lwsame") _ _ (by assumption))
  | ((with_reducible show Fq _ _ _ _); refine Fq.up ?_ (by assumption); wtm_at "lwsame")
  | ((with_reducible show Fs _ _ _ _); refine Fs.up ?_ (by assumption); wtm_at "lwsame")
  | ((with_reducible show Is _ _ _ _); refine Is.up ?_ (by assumption); wtm_at "lwsame")
  | ((with_reducible show Ns _ _ _ _); refine Ns.up ?_ (by assumption); wtm_at "lwsame")
  | ((with_reducible show Eq4 _ _ _ _); refine Eq4.up ?_ (by assumption); wtm_at "lwsame")
  | ((with_reducible show Evs _ _ _ _); refine Evs.up ?_ (by assumption); wtm_at "lwsame"))
local macro_rules | `(tactic| wtm_at "lwst2") => `(tactic| first
  | (with_reducible refine st_drop ?_)
  | (with_reducible refine st_par ?_)
  | (with_reducible refine st_par2 ?_)
  | (with_reducible refine st_un ?_)
  | (with_reducible refine st_rU ?_)
  | (with_reducible refine st_B ?_)
  | (with_reducible refine st_not ?_)
  | (with_reducible refine st_and ?_)
  | (with_reducible refine st_or ?_)
  | (with_reducible refine st_andV ?_)
  | (with_reducible refine st_orV ?_)
  | (with_reducible refine st_isB2 ?_)
  | (with_reducible refine st_ifE ?_)
  | (with_reducible refine st_yes ?_)
  | (with_reducible refine st_forL ?_)
  | (with_reducible refine st_forR ?_)
  | (with_reducible refine st_lcL ?_)
  | (with_reducible refine st_lcR ?_)
  | (with_reducible refine st_lcZ ?_)
  | (with_reducible refine st_bm ?_)
  | (with_reducible refine st_sfld ?_)
  | (with_reducible refine st_gsub ?_)
  | (with_reducible refine st_meth ?_)
  | (with_reducible refine st_sl ?_)
  | (with_reducible refine st_nopart ?_)
  | (with_reducible refine st_part ?_)
  | (with_reducible refine st_isI ?_)
  | (with_reducible refine st_rev ?_)
  | (with_reducible refine st_ckw ?_)
  | (with_reducible refine st_abs ?_)
  | ((with_reducible refine st_eq ?hh ?_); (case hh => exact rfl))
  | ((with_reducible refine st_ne ?hh ?_); (case hh => exact rfl))
  | ((with_reducible refine st_ixT (v := ?vv) (xs := ?xx) ?hh ?hi ?_); (case hh => wtm_at "lwup"); (case hi => exact rfl))
  | ((with_reducible refine st_gtup (xs := ?xx) ?hh ?hi ?_); (case hh => wtm_at "lwup"); (case hi => exact rfl)))
local macro_rules | `(tactic| wtm_at "lwst") => `(tactic| first
  | (with_reducible refine st_cons ?_)
  | ((with_reducible refine st_var (v := ?vv) ?hh ?_); (case hh => exact rfl))
  | (with_reducible refine st_nil ?_)
  | (with_reducible refine st_call ?_)
  | (with_reducible refine st_gname ?_)
  | (with_reducible refine st_c ?_)
  | (with_reducible refine st_seq ?_)
  | (with_reducible refine st_op ?_)
  | (with_reducible refine st_ret ?_)
  | (with_reducible refine st_lst ?_)
  | (with_reducible refine st_gcons ?_)
  | (with_reducible refine st_asg ?_)
  | (with_reducible refine st_isB ?_)
  | (with_reducible refine st_ifS ?_)
  | (with_reducible refine st_nx0 ?_)
  | (with_reducible refine st_test ?_)
  | (with_reducible refine st_fld ?_)
  | (with_reducible refine st_nx ?_)
  | (with_reducible refine st_rI0 ?_)
  | (with_reducible refine st_callB ?_)
  | (with_reducible refine st_gnil ?_)
  | (with_reducible refine st_tup ?_)
  | wtm_at "lwst2")

section
variable {P : Program} {w : World} {K : PySem.W.Frag} {mg : Str → Option Value} {base : Heap} {az an aw d1 d2 d3 C : Addr}

theorem sortI_is {l ns : List Int} (h : ns.Perm l) (s : ns.Pairwise (· ≤ ·)) : ns = sortI l := by
  unfold sortI
  refine List.Perm.eq_of_pairwise (le := (· ≤ ·)) (fun a b _ _ h1 h2 => by omega) s ?_ (h.trans (List.mergeSort_perm l _).symm)
  have := List.pairwise_mergeSort (le := fun a b : Int => decide (a ≤ b)) (fun a b c h1 h2 => by simp at *; omega) (fun a b => by simp; omega) l
  exact this.imp fun h => by simpa using h
theorem sortI_len (l : List Int) : (sortI l).length = l.length := List.length_mergeSort l
def sumsStep (l : List Int) (st : List Int × Nat) : List Int × Nat := (st.1 ++ [(drawN l l.length (0, st.2)).1], (drawN l l.length (0, st.2)).2)
theorem sumsN_succ (l : List Int) (i : Nat) (st : List Int × Nat) : sumsN l (i + 1) st = sumsStep l (sumsN l i st) := by
  induction i generalizing st with
  | zero => rfl
  | succ i ih =>
    show sumsN l (i + 1) (sumsStep l st) = _
    rw [ih]
    rfl
theorem sumsN_len (l : List Int) (i : Nat) (st : List Int × Nat) : (sumsN l i st).1.length = st.1.length + i := by
  induction i with
  | zero => rfl
  | succ i ih =>
    rw [sumsN_succ]
    show ((sumsN l i st).1 ++ [_]).length = _
    rw [List.length_append, ih]
    rfl
theorem sumsN_seed (l : List Int) (i : Nat) (st : List Int × Nat) (h : st.2 ≤ 4294967295) : (sumsN l i st).2 ≤ 4294967295 := by
  induction i with
  | zero => exact h
  | succ i ih =>
    rw [sumsN_succ]
    exact drawN_seed l l.length (0, (sumsN l i st).2) ih
def sp_resampled_sums (K : PySem.W.Frag) (C : Addr) : Sp := fun vs H Q _ => ∃ (a : V) (ns : List Int) (n s : Nat), vs = [a, .int (n : Int), .int (s : Int)] ∧ Is K H a ns ∧ ns.length ≤ 40 ∧ n ≤ 50 ∧ s ≤ 4294967295 ∧ ∀ v H', Same H H' → Is K H' v (sortI (sumsN ns n ([], s)).1) → Q v H'
abbrev s_resampled_sums : Stmt := top 78
theorem sc_resampled_sums : FnScope ["numbers", "rounds", "seed", "found", "turn", "amount"] ["numbers", "rounds", "seed"] (defScope s_resampled_sums) := ⟨rfl, rfl, rfl, by decide +kernel, rfl, by decide +kernel, by decide +kernel⟩
theorem ok_resampled_sums (T : Tx K mg az an aw d1 d2 d3 C) (h : Has K mg "resampled_sums" s_resampled_sums ["numbers", "rounds", "seed"]) (O_resampled_sum : Ok P w K mg base "resampled_sum" 2 ["numbers", "seed"] (sp_resampled_sum K C)) :
    Ok P w K mg base "resampled_sums" 3 ["numbers", "rounds", "seed"] (sp_resampled_sums K C) := by
  refine ok_of h sc_resampled_sums (fun vs H Q E h => ?_) (fun f cdv A outer s H vs Q E hr h => ⟨_, (pss_cons (ps_set (i := 3) sc_resampled_sums.nd rfl (Or.inl rfl) (pe_lst pa_nil))
      (pss_cons (ps_for PassesOwn.never rfl (pi_range1 (by rfl) T.b_range (pa_cons (pv 1) pa_nil)) (pg_name (i := 4) sc_resampled_sums.nd rfl (Or.inl rfl)) (pss_cons (ps_asg (pe_go O_resampled_sum (hr.mono (by decide)) (by rfl) (pa_cons (pv 0) (pa_cons (pv 2) pa_nil))) (pg_tupK (K := K) (n := 2) rfl rfl (pgs_cons (pg_name (i := 5) sc_resampled_sums.nd rfl (Or.inl rfl)) (pgs_cons (pg_name (i := 2) sc_resampled_sums.nd rfl (Or.inl rfl)) pgs_nil))))
      (pss_one (ps_expr (pe_bm PySem.F.plainAttrs_list PySem.F.slot_list_append PySem.F.type_list_append mt_append (pv 3) (pa_cons (pv 5) pa_nil))))))
      (pss_one (ps_ret (pe_callB cr_sortedI (by rfl) T.b_sorted (by decide +kernel) (pa_cons (pv 3) pa_nil)))))), ?_⟩)
  · first | (obtain ⟨_, rfl, _⟩ := h; rfl) | (obtain ⟨_, _, rfl, _⟩ := h; rfl) | (obtain ⟨_, _, _, rfl, _⟩ := h; rfl) | (obtain ⟨_, _, _, _, rfl, _⟩ := h; rfl) | (obtain ⟨_, _, _, _, _, rfl, _⟩ := h; rfl) | (obtain ⟨_, _, _, _, _, _, rfl, _⟩ := h; rfl) | (obtain ⟨_, _, _, _, _, _, _, rfl, _⟩ := h; rfl) | (obtain ⟨_, _, _, _, _, _, _, _, rfl, _⟩ := h; rfl) | (obtain ⟨_, _, _, _, _, _, _, _, _, rfl, _⟩ := h; rfl) | (obtain ⟨_, _, _, _, _, _, _, _, _, _, rfl, _⟩ := h; rfl) | (obtain ⟨_, _, _, _, _, _, _, _, _, _, _, rfl, _⟩ := h; rfl) | (obtain ⟨_, _, _, _, _, _, _, _, _, _, _, _, rfl, _⟩ := h; rfl) | (obtain ⟨_, _, _, _, _, _, _, _, _, _, _, _, _, rfl, _⟩ := h; rfl)

  · obtain ⟨a, ns, n, s, rfl, ⟨p, rfl, hp⟩, h40, hn50, hs, q⟩ := h
    repeat wtm_at "lwst"
    refine new_l (by simp) fun l H1 hn e1 hl => ?_
    repeat wtm_at "lwst"
    refine go_forR (H0 := H) (n := n) (by omega) e1 (fun i σ H1 => H1 l = some (.lst ((sumsN ns i ([], s)).1.map V.int)) ∧ ∃ o1 o2, σ = [some (.ref p), some (.int (n : Int)), some (.int (((sumsN ns i ([], s)).2 : Nat) : Int)), some (.ref l), o1, o2]) ⟨hl, none, none, rfl⟩ ?_ ?_
    · rintro i σ H2 hi e2 ⟨h2, o1, o2, rfl⟩
      have hseed := sumsN_seed ns i ([], s) hs
      repeat wtm_at "lwst"
      refine ⟨_, ns, _, rfl, ⟨p, rfl, sqL_up e2 hp⟩, h40, hseed, fun tp H3 e3 htp => ?_⟩
      repeat wtm_at "lwst"
      have h3 := e3 _ _ h2
      refine bm_list (SqL.of h3) ?_
      repeat wtm_at "lwst"
      have sl := sumsN_len ns i ([], s)
      rw [List.length_nil] at sl
      refine st_append h3 (by rw [List.length_map]; omega) ?_
      repeat wtm_at "lwst"
      refine ⟨same_mut (e2.trans e3) hn, ?_, some (.int (i : Int)), some (.int (drawN ns ns.length (0, (sumsN ns i ([], s)).2)).1), ?_⟩
      · rw [upd_same, sumsN_succ, sumsStep, List.map_append]
        rfl
      · rw [sumsN_succ]
        rfl
    · rintro σ H2 e2 ⟨h2, o1, o2, rfl⟩
      repeat wtm_at "lwst"
      refine ⟨l, _, rfl, SqL.of h2, fun ns' sp hperm hs' hsn => q _ _ (e2.trans (same_new hsn)) ⟨sp, rfl, SqL.of ?_⟩⟩
      rw [upd_same, sortI_is hperm hs']
theorem int_at {l : List Int} {i : Nat} (h : i < l.length) : (l.map V.int)[i]? = some (.int (l.getD i 0)) := by
  rw [List.getElem?_map, List.getElem?_eq_getElem h, List.getD_eq_getElem?_getD, List.getElem?_eq_getElem h]
  rfl
theorem all2_ri : ∀ {ws : List V} {ns : List Int}, All2 (RI 0 (fun _ => none)) ws ns → ws = ns.map V.int
  | _, _, .nil => rfl
  | _, _, .cons h t => by
    have h' : _ = V.int _ := h
    rw [h', all2_ri t, List.map_cons]
def sp_resampled_estimates (K : PySem.W.Frag) (C : Addr) : Sp := fun vs H Q _ => ∃ (a : V) (rs : List Rw) (n s : Nat), vs = [a, .int (n : Int), .int (s : Int)] ∧ Fs K H a rs ∧ Bs rs ∧ 0 < rs.length ∧ 1 ≤ n ∧ n ≤ 50 ∧ s ≤ 4294967295 ∧ RetL K H Q (boots rs n s)
abbrev s_resampled_estimates : Stmt := top 79
theorem sc_resampled_estimates : FnScope ["values", "rounds", "seed", "below", "numbers", "sums", "chosen", "value", "amount"] ["values", "rounds", "seed"] (defScope s_resampled_estimates) := ⟨rfl, rfl, rfl, by decide +kernel, rfl, by decide +kernel, by decide +kernel⟩
theorem ok_resampled_estimates (T : Tx K mg az an aw d1 d2 d3 C) (h : Has K mg "resampled_estimates" s_resampled_estimates ["values", "rounds", "seed"]) (O_common_below : Ok P w K mg base "common_below" 2 ["quotients"] (sp_common_below K C)) (O_resampled_sums : Ok P w K mg base "resampled_sums" 3 ["numbers", "rounds", "seed"] (sp_resampled_sums K C)) (O_quotient : Ok P w K mg base "quotient" 2 ["above", "below"] (sp_quotient K C)) :
    Ok P w K mg base "resampled_estimates" 4 ["values", "rounds", "seed"] (sp_resampled_estimates K C) := by
  refine ok_of h sc_resampled_estimates (fun vs H Q E h => ?_) (fun f cdv A outer s H vs Q E hr h => ⟨_, (pss_cons (ps_set (i := 3) sc_resampled_estimates.nd rfl (Or.inr rfl) (pe_go O_common_below (hr.mono (by decide)) (by rfl) (pa_cons (pv 0) pa_nil)))
      (pss_cons (ps_setLc (i := 4) (own := [("value", 7)]) (by rfl) sc_resampled_estimates.nd rfl rfl (sw_true rfl rfl rfl (by decide +kernel)) (pi_list (pv 0)) (blkOk_by (own := [("value", 7)]) (N := ["values", "rounds", "seed", "below", "numbers", "sums", "chosen", "value", "amount"]) (sc := defScope s_resampled_estimates) (by decide +kernel)) (fun _ _ _ _ _ => (pg_name (i := 7) sc_resampled_estimates.nd rfl (Or.inl rfl))) (fun _ _ _ _ _ => pts_nil) (fun _ _ _ _ _ => (pe_op op_mulW (pe_ix (ix_tupK (K := K) rfl) (pv 7) pe_int (fun _ _ => rfl)) (pe_op op_fdivW (pv 3) (pe_ix (ix_tupK (K := K) rfl) (pv 7) pe_int (fun _ _ => rfl))))))
      (pss_cons (ps_set (i := 5) sc_resampled_estimates.nd rfl (Or.inl rfl) (pe_go O_resampled_sums (hr.mono (by decide)) (by rfl) (pa_cons (pv 4) (pa_cons (pv 1) (pa_cons (pv 2) pa_nil)))))
      (pss_cons (ps_set (i := 6) sc_resampled_estimates.nd rfl (Or.inl rfl) (pe_lst (pa_cons (pe_ix (ix_listK (K := K) rfl) (pv 5) pe_int (fun _ _ => rfl)) (pa_cons (pe_ix (ix_listK (K := K) rfl) (pv 5) (pe_op op_fdivW (pe_op op_sub (pv 1) pe_int) pe_int) (fun _ _ => rfl)) (pa_cons (pe_ix (ix_listK (K := K) rfl) (pv 5) (pe_op op_sub (pv 1) pe_int) (fun _ _ => rfl)) pa_nil)))))
      (pss_one (ps_ret (pe_lc (own := [("amount", 8)]) (by rfl) sc_resampled_estimates.nd (pi_list (pv 6)) (blkOk_by (own := [("amount", 8)]) (N := ["values", "rounds", "seed", "below", "numbers", "sums", "chosen", "value", "amount"]) (sc := defScope s_resampled_estimates) (by decide +kernel)) (fun _ _ _ _ _ => (pg_name (i := 8) sc_resampled_estimates.nd rfl (Or.inl rfl))) (fun _ _ _ _ _ => pts_nil) (fun _ _ _ _ _ => (pe_go O_quotient (hr.mono (by decide)) (by rfl) (pa_cons (pv 8) (pa_cons (pe_op op_mulW (pv 3) (pe_callB (cb_lenK (K := K) rfl) (by rfl) T.b_len PySem.boot_len (pa_cons (pv 0) pa_nil))) pa_nil))))))))))), ?_⟩)
  · first | (obtain ⟨_, rfl, _⟩ := h; rfl) | (obtain ⟨_, _, rfl, _⟩ := h; rfl) | (obtain ⟨_, _, _, rfl, _⟩ := h; rfl) | (obtain ⟨_, _, _, _, rfl, _⟩ := h; rfl) | (obtain ⟨_, _, _, _, _, rfl, _⟩ := h; rfl) | (obtain ⟨_, _, _, _, _, _, rfl, _⟩ := h; rfl) | (obtain ⟨_, _, _, _, _, _, _, rfl, _⟩ := h; rfl) | (obtain ⟨_, _, _, _, _, _, _, _, rfl, _⟩ := h; rfl) | (obtain ⟨_, _, _, _, _, _, _, _, _, rfl, _⟩ := h; rfl) | (obtain ⟨_, _, _, _, _, _, _, _, _, _, rfl, _⟩ := h; rfl) | (obtain ⟨_, _, _, _, _, _, _, _, _, _, _, rfl, _⟩ := h; rfl) | (obtain ⟨_, _, _, _, _, _, _, _, _, _, _, _, rfl, _⟩ := h; rfl) | (obtain ⟨_, _, _, _, _, _, _, _, _, _, _, _, _, rfl, _⟩ := h; rfl)

  · obtain ⟨a, rs, n, s, rfl, ⟨p, xs, rfl, hp, hxs⟩, ⟨b1, b2, b3, b4, b5⟩, h0, n1, n50, hs, q⟩ := h
    have l0 := lcm_pos rs
    have l8 := b2 rs.length
    rw [List.take_length] at l8
    repeat wtm_at "lwst"
    refine ⟨_, rs, rfl, ⟨p, xs, rfl, hp, hxs⟩, b1, b2, ?_⟩
    repeat wtm_at "lwst"
    refine go_lcL (R := RI) (zs := scaled rs) (map_len hxs) (by rw [hxs.len]; omega) (Same.refl H) hp RI.up RI.mu (fun D i x z H1 hi hz hD e ha Q' kq => ?_) (fun np H1 ws hnp e1 h1 a1 => ?_)
    · obtain ⟨r, hr, hq⟩ := hxs.get hi
      obtain rfl := map_at hz hr
      obtain ⟨tp, rfl, htp⟩ := hq.up e
      have br := b1 r (mem_ix hr)
      have dl := log2_mono (Nat.div_le_self (lcmL rs) r.den)
      repeat wtm_at "lwst"
      refine ⟨rfl, ?_⟩
      repeat wtm_at "lwst"
      refine st_rI ⟨by have := r.den_pos; omega, by rw [Int.natAbs_natCast]; have := br.2; omega⟩ ?_
      repeat wtm_at "lwst"
      refine st_rI (by
        unfold CMulW
        rw [← Int.natCast_ediv, Int.natAbs_natCast]
        have := br.1
        omega) ?_
      exact kq _ H1 (Same.refl _) rfl
    · have ew : ws = (scaled rs).map V.int := all2_ri a1
      subst ew
      repeat wtm_at "lwst"
      refine ⟨_, scaled rs, n, s, rfl, ⟨np, rfl, SqL.of h1⟩, by unfold scaled; rw [List.length_map]; omega, n50, hs, fun v H2 e2 ⟨sp, ev, hsp⟩ => ?_⟩
      subst ev
      have slen : (sortI (sumsN (scaled rs) n ([], s)).1).length = n := by
        rw [sortI_len, sumsN_len]
        simp
      repeat wtm_at "lwst"
      refine st_ixL hsp (atI_nat (j := 0) (int_at (by omega))) ?_
      repeat wtm_at "lwst"
      refine st_rI ⟨by decide, by decide +kernel⟩ ?_
      repeat wtm_at "lwst"
      rw [show (((n : Nat) : Int) - 1) / 2 = (((n - 1) / 2 : Nat) : Int) by omega]
      refine st_ixL hsp (atI_nat (int_at (by omega))) ?_
      repeat wtm_at "lwst"
      rw [show (((n : Nat) : Int) - 1) = ((n - 1 : Nat) : Int) by omega]
      refine st_ixL hsp (atI_nat (int_at (by omega))) ?_
      repeat wtm_at "lwst"
      refine new_l (by simp) fun cp H3 hcn e3 hcp => ?_
      repeat wtm_at "lwst"
      have e03 := (e1.trans e2).trans e3
      refine go_lcL (R := RF K) (zs := boots rs n s) rfl (by simp) (Same.refl H3) (SqL.of hcp) RF.up RF.mu (fun D i x z H4 hi hz hD e ha Q' kq => ?_) (fun rp H4 ws hrp e4 h4 a4 => q _ _ (e03.trans e4) (fs_of h4 a4))
      have hxz : ∃ y : Int, x = .int y ∧ z = mkRat y (lcmL rs * rs.length) := by
        match i, hi, hz with
        | 0, hi, hz => exact ⟨_, (Option.some.inj hi).symm, (Option.some.inj hz).symm⟩
        | 1, hi, hz => exact ⟨_, (Option.some.inj hi).symm, (Option.some.inj hz).symm⟩
        | 2, hi, hz => exact ⟨_, (Option.some.inj hi).symm, (Option.some.inj hz).symm⟩
        | i + 3, hi, hz => simp at hi
      obtain ⟨y, rfl, rfl⟩ := hxz
      repeat wtm_at "lwst"
      refine ⟨rfl, ?_⟩
      repeat wtm_at "lwst"
      refine st_len (sqL_up (e03.trans e) hp) ?_
      repeat wtm_at "lwst"
      rw [hxs.len]
      refine st_rI (by
        unfold CMulW
        rw [Int.natAbs_natCast, Int.natAbs_natCast]
        have := log2_mono (show rs.length ≤ 40 from b5)
        have h40 : (40 : Nat).log2 = 5 := by decide +kernel
        omega) ?_
      repeat wtm_at "lwst"
      exact mk_go (d := lcmL rs * rs.length) (Nat.mul_pos l0 h0) b4 kq
end
end Lw

namespace Lw
open PySem PySem.Spec PyProof.Rows L2
local macro_rules | `(tactic| wtm_at "lwsame") => `(tactic| first
  | assumption | exact Same.refl _ | (refine Same.trans (by assumption) ?_; wtm_at "lwsame"))
local macro_rules | `(tactic| wtm_at "lwup") => `(tactic| first
  | assumption
  | ((with_reducible show SqT _ _ _ _); first | (refine sqT_up ?_ (by assumption); wtm_at "lwsame") | (refine KT.sq ?_ _; assumption) | (refine SqT.of ?_; wtm_at "lwup"))
  | ((with_reducible show SqL _ _ _ _); first | (refine sqL_up ?_ (by assumption); wtm_at "lwsame") | (refine SqL.of ?_; wtm_at "lwup"))
  | ((with_reducible show _ = some _); refine (show Same _ _ by wtm_at "lwsame") _ _ (by assumption))
  | ((with_reducible show Fq _ _ _ _); refine Fq.up ?_ (by assumption); wtm_at "lwsame")
  | ((with_reducible show Fs _ _ _ _); refine Fs.up ?_ (by assumption); wtm_at "lwsame")
  | ((with_reducible show Is _ _ _ _); refine Is.up ?_ (by assumption); wtm_at "lwsame")
  | ((with_reducible show Ns _ _ _ _); refine Ns.up ?_ (by assumption); wtm_at "lwsame")
  | ((with_reducible show Eq4 _ _ _ _); refine Eq4.up ?_ (by assumption); wtm_at "lwsame")
  | ((with_reducible show Evs _ _ _ _); refine Evs.up ?_ (by assumption); wtm_at "lwsame"))
local macro_rules | `(tactic| wtm_at "lwst2") => `(tactic| first
  | (with_reducible refine st_drop ?_)
  | (with_reducible refine st_par ?_)
  | (with_reducible refine st_par2 ?_)
  | (with_reducible refine st_un ?_)
  | (with_reducible refine st_rU ?_)
  | (with_reducible refine st_B ?_)
  | (with_reducible refine st_not ?_)
  | (with_reducible refine st_and ?_)
  | (with_reducible refine st_or ?_)
  | (with_reducible refine st_andV ?_)
  | (with_reducible refine st_orV ?_)
  | (with_reducible refine st_isB2 ?_)
  | (with_reducible refine st_ifE ?_)
  | (with_reducible refine st_yes ?_)
  | (with_reducible refine st_forL ?_)
  | (with_reducible refine st_forR ?_)
  | (with_reducible refine st_lcL ?_)
  | (with_reducible refine st_lcR ?_)
  | (with_reducible refine st_lcZ ?_)
  | (with_reducible refine st_bm ?_)
  | (with_reducible refine st_sfld ?_)
  | (with_reducible refine st_gsub ?_)
  | (with_reducible refine st_meth ?_)
  | (with_reducible refine st_sl ?_)
  | (with_reducible refine st_nopart ?_)
  | (with_reducible refine st_part ?_)
  | (with_reducible refine st_isI ?_)
  | (with_reducible refine st_rev ?_)
  | (with_reducible refine st_ckw ?_)
  | (with_reducible refine st_abs ?_)
  | ((with_reducible refine st_eq ?hh ?_); (case hh => exact rfl))
  | ((with_reducible refine st_ne ?hh ?_); (case hh => exact rfl))
  | ((with_reducible refine st_ixT (v := ?vv) (xs := ?xx) ?hh ?hi ?_); (case hh => wtm_at "lwup"); (case hi => exact rfl))
  | ((with_reducible refine st_gtup (xs := ?xx) ?hh ?hi ?_); (case hh => wtm_at "lwup"); (case hi => exact rfl)))
local macro_rules | `(tactic| wtm_at "lwst") => `(tactic| first
  | (with_reducible refine st_cons ?_)
  | ((with_reducible refine st_var (v := ?vv) ?hh ?_); (case hh => exact rfl))
  | (with_reducible refine st_nil ?_)
  | (with_reducible refine st_call ?_)
  | (with_reducible refine st_gname ?_)
  | (with_reducible refine st_c ?_)
  | (with_reducible refine st_seq ?_)
  | (with_reducible refine st_op ?_)
  | (with_reducible refine st_ret ?_)
  | (with_reducible refine st_lst ?_)
  | (with_reducible refine st_gcons ?_)
  | (with_reducible refine st_asg ?_)
  | (with_reducible refine st_isB ?_)
  | (with_reducible refine st_ifS ?_)
  | (with_reducible refine st_nx0 ?_)
  | (with_reducible refine st_test ?_)
  | (with_reducible refine st_fld ?_)
  | (with_reducible refine st_nx ?_)
  | (with_reducible refine st_rI0 ?_)
  | (with_reducible refine st_callB ?_)
  | (with_reducible refine st_gnil ?_)
  | (with_reducible refine st_tup ?_)
  | wtm_at "lwst2")

section
variable {P : Program} {w : World} {K : PySem.W.Frag} {mg : Str → Option Value} {base : Heap} {az an aw d1 d2 d3 C : Addr}

theorem nz_take (l : List Nat) (k : Nat) : ((nz l).map V.int).take k = (nz (l.take k)).map V.int := by
  unfold nz
  rw [List.map_take, List.map_take]
theorem allLe_mem {l : List Nat} {t : Nat} (h : allLe l t = true) : ∀ x ∈ l, x ≤ t := fun x hx => by
  have := List.all_eq_true.mp h x hx
  exact of_decide_eq_true this
def sp_precision_at (K : PySem.W.Frag) (C : Addr) : Sp := fun vs H Q _ => ∃ (a : V) (l : List Nat) (k : Nat), vs = [a, .int (k : Int)] ∧ Ns K H a l ∧ 1 ≤ k ∧ k ≤ 12 ∧ Ret1 K H Q (precAt l k)
abbrev s_precision_at : Stmt := top 94
theorem sc_precision_at : FnScope ["relevance", "many"] ["relevance", "many"] (defScope s_precision_at) := ⟨rfl, rfl, rfl, by decide +kernel, rfl, by decide +kernel, by decide +kernel⟩
theorem ok_precision_at (T : Tx K mg az an aw d1 d2 d3 C) (h : Has K mg "precision_at" s_precision_at ["relevance", "many"]) (O_quotient : Ok P w K mg base "quotient" 2 ["above", "below"] (sp_quotient K C)) :
    Ok P w K mg base "precision_at" 3 ["relevance", "many"] (sp_precision_at K C) := by
  refine ok_of h sc_precision_at (fun vs H Q E h => ?_) (fun f cdv A outer s H vs Q E hr h => ⟨_, (pss_one (ps_ret (pe_go O_quotient (hr.mono (by decide)) (by rfl) (pa_cons (pe_callB (cr_sumK (K := K) rfl rfl) (by rfl) T.b_sum (by decide +kernel) (pa_cons (pe_slice (sl_listK (K := K) rfl) (pv 0) po_none (po_some (pv 1))) pa_nil)) (pa_cons (pv 1) pa_nil))))), ?_⟩)
  · first | (obtain ⟨_, rfl, _⟩ := h; rfl) | (obtain ⟨_, _, rfl, _⟩ := h; rfl) | (obtain ⟨_, _, _, rfl, _⟩ := h; rfl) | (obtain ⟨_, _, _, _, rfl, _⟩ := h; rfl) | (obtain ⟨_, _, _, _, _, rfl, _⟩ := h; rfl) | (obtain ⟨_, _, _, _, _, _, rfl, _⟩ := h; rfl) | (obtain ⟨_, _, _, _, _, _, _, rfl, _⟩ := h; rfl) | (obtain ⟨_, _, _, _, _, _, _, _, rfl, _⟩ := h; rfl) | (obtain ⟨_, _, _, _, _, _, _, _, _, rfl, _⟩ := h; rfl) | (obtain ⟨_, _, _, _, _, _, _, _, _, _, rfl, _⟩ := h; rfl) | (obtain ⟨_, _, _, _, _, _, _, _, _, _, _, rfl, _⟩ := h; rfl) | (obtain ⟨_, _, _, _, _, _, _, _, _, _, _, _, rfl, _⟩ := h; rfl) | (obtain ⟨_, _, _, _, _, _, _, _, _, _, _, _, _, rfl, _⟩ := h; rfl)

  · obtain ⟨a, l, k, rfl, ⟨p, rfl, hp⟩, k1, k12, q⟩ := h
    repeat wtm_at "lwst"
    refine st_slL hp fun sp H1 hsn e1 hsp => ?_
    rw [cut_to, nz_take] at hsp
    repeat wtm_at "lwst"
    refine st_sum (SqL.of hsp) ?_
    repeat wtm_at "lwst"
    rw [nz_sum]
    have hl : k.log2 < 9000 := Nat.lt_of_le_of_lt (log2_mono k12) (by decide)
    exact mk_go (by omega) hl fun v H2 e2 hv => q v H2 (e1.trans e2) hv
theorem hits_more {l : List Nat} {i : Nat} : (List.range (i + 1)).filter (fun i => l.getD i 0 == 1) = (List.range i).filter (fun i => l.getD i 0 == 1) ++ (if (l.getD i 0 == 1) = true then [i] else []) := by
  rw [List.range_succ, List.filter_append, List.filter_cons]
  split <;> rfl
def sp_average_precision (K : PySem.W.Frag) (C : Addr) : Sp := fun vs H Q _ => ∃ (a : V) (l : List Nat), vs = [a] ∧ Ns K H a l ∧ l.length ≤ 12 ∧ (∀ x ∈ l, x ≤ 1) ∧ Ret1 K H Q (avgPrec l)
theorem isempty_map {α β : Type} (f : α → β) (l : List α) : (l.map f).isEmpty = l.isEmpty := by cases l <;> rfl
abbrev s_average_precision : Stmt := top 95
theorem sc_average_precision : FnScope ["relevance", "found", "at"] ["relevance"] (defScope s_average_precision) := ⟨rfl, rfl, rfl, by decide +kernel, rfl, by decide +kernel, by decide +kernel⟩
theorem ok_average_precision (T : Tx K mg az an aw d1 d2 d3 C) (h : Has K mg "average_precision" s_average_precision ["relevance"]) (O_mean : Ok P w K mg base "mean" 5 ["quotients"] (sp_mean K C)) (O_precision_at : Ok P w K mg base "precision_at" 3 ["relevance", "many"] (sp_precision_at K C)) :
    Ok P w K mg base "average_precision" 6 ["relevance"] (sp_average_precision K C) := by
  refine ok_of h sc_average_precision (fun vs H Q E h => ?_) (fun f cdv A outer s H vs Q E hr h => ⟨_, (pss_cons (ps_set (i := 1) sc_average_precision.nd rfl (Or.inl rfl) (pe_lst pa_nil))
      (pss_cons (ps_for PassesOwn.never rfl (pi_range1 (by rfl) T.b_range (pa_cons (pe_callB (cb_lenK (K := K) rfl) (by rfl) T.b_len PySem.boot_len (pa_cons (pv 0) pa_nil)) pa_nil)) (pg_name (i := 2) sc_average_precision.nd rfl (Or.inl rfl)) (pss_one (ps_if (pt_cmpR op_eq (pe_ix (ix_listK (K := K) rfl) (pv 0) (pv 2) (fun _ _ => rfl)) pe_int (nomark _)) (pss_one (ps_expr (pe_bm PySem.F.plainAttrs_list PySem.F.slot_list_append PySem.F.type_list_append mt_append (pv 1) (pa_cons (pe_go O_precision_at (hr.mono (by decide)) (by rfl) (pa_cons (pv 0) (pa_cons (pe_op op_add (pv 2) pe_int) pa_nil))) pa_nil)))) pss_nil)))
      (pss_one (ps_ret (pe_ifExp (pt_cmpR (op_neD hr.units) (pv 1) (pe_lst pa_nil) (nomark _)) (pe_go O_mean (hr.mono (by decide)) (by rfl) (pa_cons (pv 1) pa_nil)) (pe_globR (by rfl) T.m_ZERO)))))), ?_⟩)
  · first | (obtain ⟨_, rfl, _⟩ := h; rfl) | (obtain ⟨_, _, rfl, _⟩ := h; rfl) | (obtain ⟨_, _, _, rfl, _⟩ := h; rfl) | (obtain ⟨_, _, _, _, rfl, _⟩ := h; rfl) | (obtain ⟨_, _, _, _, _, rfl, _⟩ := h; rfl) | (obtain ⟨_, _, _, _, _, _, rfl, _⟩ := h; rfl) | (obtain ⟨_, _, _, _, _, _, _, rfl, _⟩ := h; rfl) | (obtain ⟨_, _, _, _, _, _, _, _, rfl, _⟩ := h; rfl) | (obtain ⟨_, _, _, _, _, _, _, _, _, rfl, _⟩ := h; rfl) | (obtain ⟨_, _, _, _, _, _, _, _, _, _, rfl, _⟩ := h; rfl) | (obtain ⟨_, _, _, _, _, _, _, _, _, _, _, rfl, _⟩ := h; rfl) | (obtain ⟨_, _, _, _, _, _, _, _, _, _, _, _, rfl, _⟩ := h; rfl) | (obtain ⟨_, _, _, _, _, _, _, _, _, _, _, _, _, rfl, _⟩ := h; rfl)

  · obtain ⟨a, l, rfl, ⟨p, rfl, hp⟩, l12, hx, q⟩ := h
    repeat wtm_at "lwst"
    refine new_l (by simp) fun fl H1 hn e1 hfl => ?_
    repeat wtm_at "lwst"
    refine st_len (sqL_up e1 hp) ?_
    repeat wtm_at "lwst"
    rw [nzV_len]
    refine go_forR (H0 := H) (n := l.length) (by omega) e1 (fun i σ H1 => ∃ acc o, H1 fl = some (.lst acc) ∧ All2 (Fq K H1) acc (((List.range i).filter fun i => l.getD i 0 == 1).map fun i => precAt l (i + 1)) ∧ σ = [some (.ref p), some (.ref fl), o]) ⟨[], none, hfl, .nil, rfl⟩ ?_ ?_
    · rintro i σ H2 hi e2 ⟨acc, o, h2, ha, rfl⟩
      have al := ha.len
      rw [List.length_map] at al
      have al2 := List.length_filter_le (fun i => l.getD i 0 == 1) (List.range i)
      rw [List.length_range] at al2
      repeat wtm_at "lwst"
      refine st_ixL (sqL_up e2 hp) (atI_nat (nz_get hi)) ?_
      repeat wtm_at "lwst"
      rw [show decide (V.int ((l.getD i 0 : Nat) : Int) = V.int 1) = (l.getD i 0 == 1) from dec_len _ 1]
      refine cond_2 (fun b => ?_) (fun b => ?_)
      · repeat wtm_at "lwst"
        refine bm_list (SqL.of h2) ?_
        repeat wtm_at "lwst"
        refine ⟨_, l, i + 1, rfl, ⟨p, rfl, sqL_up e2 hp⟩, by omega, by omega, fun v H3 e3 hv => ?_⟩
        repeat wtm_at "lwst"
        have h3 := e3 _ _ h2
        refine st_append h3 (by omega) ?_
        repeat wtm_at "lwst"
        refine ⟨same_mut (e2.trans e3) hn, acc ++ [v], some (.int (i : Int)), upd_same, ?_, rfl⟩
        rw [hits_more, b, if_pos rfl, List.map_append]
        exact All2.app (ha.imp fun _ _ z => (z.up e3).mut h3) (All2.one (hv.mut h3))
      · repeat wtm_at "lwst"
        refine ⟨e2, acc, some (.int (i : Int)), h2, ?_, rfl⟩
        rw [hits_more, b, if_neg (by simp), List.append_nil]
        exact ha
    · rintro σ H2 e2 ⟨acc, o, h2, ha, rfl⟩
      have hf : Fs K H2 (.ref fl) ((hitsAt l).map fun i => precAt l (i + 1)) := ⟨fl, acc, rfl, SqL.of h2, ha⟩
      repeat wtm_at "lwst"
      refine new_l (by simp) fun n2 H3 hn2 e3 h3 => ?_
      refine st_neNil (hf.up e3) h3 ?_
      rw [isempty_map]
      repeat wtm_at "lwst"
      refine cond_2 (fun b => ?_) (fun b => ?_)
      · have hne : hitsAt l ≠ [] := fun z => by
          rw [z] at b
          cases b
        repeat wtm_at "lwst"
        refine ⟨_, _, rfl, hf.up e3, ps_prec l12 hx, by rw [List.length_map]; exact List.length_pos_iff.mpr hne, ?_, fun y H4 e4 hy => q y H4 ((e2.trans e3).trans e4) ?_⟩
        · rw [List.length_map]
          unfold hitsAt
          have := List.length_filter_le (fun i => l.getD i 0 == 1) (List.range l.length)
          rw [List.length_range] at this
          omega
        · unfold avgPrec
          rw [if_neg hne]
          exact hy
      · have he : hitsAt l = [] := List.isEmpty_iff.mp (by simpa using b)
        repeat wtm_at "lwst"
        refine q _ H3 (e2.trans e3) ?_
        unfold avgPrec
        rw [if_pos he]
        exact fq_zero T H3
theorem hits_split {l : List Nat} {i : Nat} (hi : i < l.length) (h0 : (List.range i).filter (fun i => l.getD i 0 == 1) = []) (h1 : (l.getD i 0 == 1) = true) : ∃ r, hitsAt l = i :: r := by
  obtain ⟨d, hd⟩ : ∃ d, l.length = (i + 1) + d := ⟨l.length - (i + 1), by omega⟩
  unfold hitsAt
  rw [hd, List.range_add, List.filter_append, hits_more, h0, h1, if_pos rfl]
  exact ⟨_, rfl⟩
theorem mk_one (i : Nat) : (mkRat 1 (i + 1)).num = 1 ∧ (mkRat 1 (i + 1)).den = i + 1 := by
  rw [Rat.num_mkRat, Rat.den_mkRat, if_neg (by omega), if_neg (by omega)]
  simp
def sp_reciprocal_rank (K : PySem.W.Frag) (C : Addr) : Sp := fun vs H Q _ => ∃ (a : V) (l : List Nat), vs = [a] ∧ Ns K H a l ∧ l.length ≤ 12 ∧ Ret1 K H Q (recRank l)
abbrev s_reciprocal_rank : Stmt := top 96
theorem sc_reciprocal_rank : FnScope ["relevance", "at"] ["relevance"] (defScope s_reciprocal_rank) := ⟨rfl, rfl, rfl, by decide +kernel, rfl, by decide +kernel, by decide +kernel⟩
theorem ok_reciprocal_rank (T : Tx K mg az an aw d1 d2 d3 C) (h : Has K mg "reciprocal_rank" s_reciprocal_rank ["relevance"]) :
    Ok P w K mg base "reciprocal_rank" 1 ["relevance"] (sp_reciprocal_rank K C) := by
  refine ok_of h sc_reciprocal_rank (fun vs H Q E h => ?_) (fun f cdv A outer s H vs Q E hr h => ⟨_, (pss_cons (ps_for PassesOwn.never rfl (pi_range1 (by rfl) T.b_range (pa_cons (pe_callB (cb_lenK (K := K) rfl) (by rfl) T.b_len PySem.boot_len (pa_cons (pv 0) pa_nil)) pa_nil)) (pg_name (i := 1) sc_reciprocal_rank.nd rfl (Or.inl rfl)) (pss_one (ps_if (pt_cmpR op_eq (pe_ix (ix_listK (K := K) rfl) (pv 0) (pv 1) (fun _ _ => rfl)) pe_int (nomark _)) (pss_one (ps_ret (pe_tup (pa_cons pe_int (pa_cons (pe_op op_add (pv 1) pe_int) pa_nil))))) pss_nil)))
      (pss_one (ps_ret (pe_globR (by rfl) T.m_ZERO)))), ?_⟩)
  · first | (obtain ⟨_, rfl, _⟩ := h; rfl) | (obtain ⟨_, _, rfl, _⟩ := h; rfl) | (obtain ⟨_, _, _, rfl, _⟩ := h; rfl) | (obtain ⟨_, _, _, _, rfl, _⟩ := h; rfl) | (obtain ⟨_, _, _, _, _, rfl, _⟩ := h; rfl) | (obtain ⟨_, _, _, _, _, _, rfl, _⟩ := h; rfl) | (obtain ⟨_, _, _, _, _, _, _, rfl, _⟩ := h; rfl) | (obtain ⟨_, _, _, _, _, _, _, _, rfl, _⟩ := h; rfl) | (obtain ⟨_, _, _, _, _, _, _, _, _, rfl, _⟩ := h; rfl) | (obtain ⟨_, _, _, _, _, _, _, _, _, _, rfl, _⟩ := h; rfl) | (obtain ⟨_, _, _, _, _, _, _, _, _, _, _, rfl, _⟩ := h; rfl) | (obtain ⟨_, _, _, _, _, _, _, _, _, _, _, _, rfl, _⟩ := h; rfl) | (obtain ⟨_, _, _, _, _, _, _, _, _, _, _, _, _, rfl, _⟩ := h; rfl)

  · obtain ⟨a, l, rfl, ⟨p, rfl, hp⟩, l12, q⟩ := h
    repeat wtm_at "lwst"
    refine st_len hp ?_
    repeat wtm_at "lwst"
    rw [nzV_len]
    refine go_forR (H0 := H) (n := l.length) (by omega) (Same.refl H) (fun i σ H1 => (List.range i).filter (fun i => l.getD i 0 == 1) = [] ∧ ∃ o, σ = [some (.ref p), o]) ⟨rfl, none, rfl⟩ ?_ ?_
    · rintro i σ H1 hi e ⟨h0, o, rfl⟩
      repeat wtm_at "lwst"
      refine st_ixL (sqL_up e hp) (atI_nat (nz_get hi)) ?_
      repeat wtm_at "lwst"
      rw [show decide (V.int ((l.getD i 0 : Nat) : Int) = V.int 1) = (l.getD i 0 == 1) from dec_len _ 1]
      refine cond_2 (fun b => ?_) (fun b => ?_)
      · repeat wtm_at "lwst"
        refine new_t (K := K) (by simp) fun tp H2 e2 htp => q _ H2 (e.trans e2) ⟨tp, rfl, ?_⟩
        obtain ⟨r, hr⟩ := hits_split hi h0 b
        unfold recRank
        rw [hr]
        show SqT K H2 tp [.int (mkRat 1 (i + 1)).num, .int (((mkRat 1 (i + 1)).den : Nat) : Int)]
        rw [(mk_one i).1, (mk_one i).2]
        exact htp
      · repeat wtm_at "lwst"
        refine ⟨e, ?_, some (.int (i : Int)), rfl⟩
        rw [hits_more, h0, b]
        rfl
    · rintro σ H1 e ⟨h0, o, rfl⟩
      repeat wtm_at "lwst"
      refine q _ H1 e ?_
      have hh : hitsAt l = [] := h0
      unfold recRank
      rw [hh]
      exact fq_zero T H1
def sp_discounted_gain (K : PySem.W.Frag) (C : Addr) : Sp := fun vs H Q _ => ∃ (a : V) (l : List Nat), vs = [a] ∧ Ns K H a l ∧ l.length ≤ 12 ∧ (∀ x ∈ l, x ≤ 100) ∧ Ret1 K H Q (disc l)
abbrev s_discounted_gain : Stmt := top 97
theorem sc_discounted_gain : FnScope ["gains", "at"] ["gains"] (defScope s_discounted_gain) := ⟨rfl, rfl, rfl, by decide +kernel, rfl, by decide +kernel, by decide +kernel⟩
theorem ok_discounted_gain (T : Tx K mg az an aw d1 d2 d3 C) (h : Has K mg "discounted_gain" s_discounted_gain ["gains"]) (O_total : Ok P w K mg base "total" 4 ["quotients"] (sp_total K C)) (O_quotient : Ok P w K mg base "quotient" 2 ["above", "below"] (sp_quotient K C)) :
    Ok P w K mg base "discounted_gain" 5 ["gains"] (sp_discounted_gain K C) := by
  refine ok_of h sc_discounted_gain (fun vs H Q E h => ?_) (fun f cdv A outer s H vs Q E hr h => ⟨_, (pss_one (ps_ret (pe_go O_total (hr.mono (by decide)) (by rfl) (pa_cons (pe_lc (own := [("at", 1)]) (by rfl) sc_discounted_gain.nd (pi_range1 (by rfl) T.b_range (pa_cons (pe_callB (cb_lenK (K := K) rfl) (by rfl) T.b_len PySem.boot_len (pa_cons (pv 0) pa_nil)) pa_nil)) (blkOk_by (own := [("at", 1)]) (N := ["gains", "at"]) (sc := defScope s_discounted_gain) (by decide +kernel)) (fun _ _ _ _ _ => (pg_name (i := 1) sc_discounted_gain.nd rfl (Or.inl rfl))) (fun _ _ _ _ _ => pts_nil) (fun _ _ _ _ _ => (pe_go O_quotient (hr.mono (by decide)) (by rfl) (pa_cons (pe_ix (ix_listK (K := K) rfl) (pv 0) (pv 1) (fun _ _ => rfl)) (pa_cons (pe_op op_add (pv 1) pe_int) pa_nil))))) pa_nil)))), ?_⟩)
  · first | (obtain ⟨_, rfl, _⟩ := h; rfl) | (obtain ⟨_, _, rfl, _⟩ := h; rfl) | (obtain ⟨_, _, _, rfl, _⟩ := h; rfl) | (obtain ⟨_, _, _, _, rfl, _⟩ := h; rfl) | (obtain ⟨_, _, _, _, _, rfl, _⟩ := h; rfl) | (obtain ⟨_, _, _, _, _, _, rfl, _⟩ := h; rfl) | (obtain ⟨_, _, _, _, _, _, _, rfl, _⟩ := h; rfl) | (obtain ⟨_, _, _, _, _, _, _, _, rfl, _⟩ := h; rfl) | (obtain ⟨_, _, _, _, _, _, _, _, _, rfl, _⟩ := h; rfl) | (obtain ⟨_, _, _, _, _, _, _, _, _, _, rfl, _⟩ := h; rfl) | (obtain ⟨_, _, _, _, _, _, _, _, _, _, _, rfl, _⟩ := h; rfl) | (obtain ⟨_, _, _, _, _, _, _, _, _, _, _, _, rfl, _⟩ := h; rfl) | (obtain ⟨_, _, _, _, _, _, _, _, _, _, _, _, _, rfl, _⟩ := h; rfl)

  · obtain ⟨a, l, rfl, ⟨p, rfl, hp⟩, l12, hx, q⟩ := h
    repeat wtm_at "lwst"
    refine st_len hp ?_
    repeat wtm_at "lwst"
    rw [nzV_len]
    refine go_lcR (R := RF K) (n := l.length) (zs := (List.range l.length).map fun i => mkRat ((l.getD i 0 : Nat) : Int) (i + 1)) (by simp) (by omega) (Same.refl H) RF.up RF.mu (fun D i z H1 hz hi hD e ha Q' kq => ?_) (fun lp H1 ws hlp e1 h1 a1 => ?_)
    · have ez := map_at hz (List.getElem?_range hi)
      subst ez
      repeat wtm_at "lwst"
      refine ⟨rfl, ?_⟩
      repeat wtm_at "lwst"
      refine st_ixL (sqL_up e hp) (atI_nat (nz_get hi)) ?_
      repeat wtm_at "lwst"
      have hl : (i + 1).log2 < 9000 := Nat.lt_of_le_of_lt (log2_mono (show i + 1 ≤ 12 by omega)) (by decide)
      exact mk_go (d := i + 1) (by omega) hl kq
    · repeat wtm_at "lwst"
      exact ⟨_, _, rfl, fs_of h1 a1, ps_disc l12 hx, fun y H2 e2 hy => q y H2 (e1.trans e2) hy⟩
theorem sortDown_is {l : List Nat} {ns : List Int} (h : ns.Perm (nz l)) (s : ns.Pairwise (· ≥ ·)) : ns = nz (sortDown l) := by
  refine List.Perm.eq_of_pairwise (le := (· ≥ ·)) (fun a b _ _ h1 h2 => by omega) s ?_ (h.trans ((List.mergeSort_perm l _).symm.map _))
  unfold nz sortDown
  rw [List.pairwise_map]
  have := List.pairwise_mergeSort (le := fun a b : Nat => decide (b ≤ a)) (fun a b c h1 h2 => by simp at *; omega) (fun a b => by simp; omega) l
  exact this.imp fun h => by
    have := of_decide_eq_true h
    omega
theorem sortDown_len (l : List Nat) : (sortDown l).length = l.length := List.length_mergeSort l
theorem sortDown_mem {l : List Nat} {x : Nat} (h : x ∈ sortDown l) : x ∈ l := List.mem_mergeSort.mp h
def sp_ideal_gain (K : PySem.W.Frag) (C : Addr) : Sp := fun vs H Q _ => ∃ (a : V) (l : List Nat), vs = [a] ∧ Ns K H a l ∧ l.length ≤ 12 ∧ (∀ x ∈ l, x ≤ 100) ∧ Ret1 K H Q (disc (sortDown l))
abbrev s_ideal_gain : Stmt := top 98
theorem sc_ideal_gain : FnScope ["gains"] ["gains"] (defScope s_ideal_gain) := ⟨rfl, rfl, rfl, by decide +kernel, rfl, by decide +kernel, by decide +kernel⟩
theorem ok_ideal_gain (T : Tx K mg az an aw d1 d2 d3 C) (h : Has K mg "ideal_gain" s_ideal_gain ["gains"]) (O_discounted_gain : Ok P w K mg base "discounted_gain" 5 ["gains"] (sp_discounted_gain K C)) :
    Ok P w K mg base "ideal_gain" 6 ["gains"] (sp_ideal_gain K C) := by
  refine ok_of h sc_ideal_gain (fun vs H Q E h => ?_) (fun f cdv A outer s H vs Q E hr h => ⟨_, (pss_one (ps_ret (pe_go O_discounted_gain (hr.mono (by decide)) (by rfl) (pa_cons (pe_callBK (cr_sortedRev (b := true)) (by rfl) T.b_sorted (by decide +kernel) (pa_cons (pv 0) pa_nil) (pk_cons pe_bl pk_nil)) pa_nil)))), ?_⟩)
  · first | (obtain ⟨_, rfl, _⟩ := h; rfl) | (obtain ⟨_, _, rfl, _⟩ := h; rfl) | (obtain ⟨_, _, _, rfl, _⟩ := h; rfl) | (obtain ⟨_, _, _, _, rfl, _⟩ := h; rfl) | (obtain ⟨_, _, _, _, _, rfl, _⟩ := h; rfl) | (obtain ⟨_, _, _, _, _, _, rfl, _⟩ := h; rfl) | (obtain ⟨_, _, _, _, _, _, _, rfl, _⟩ := h; rfl) | (obtain ⟨_, _, _, _, _, _, _, _, rfl, _⟩ := h; rfl) | (obtain ⟨_, _, _, _, _, _, _, _, _, rfl, _⟩ := h; rfl) | (obtain ⟨_, _, _, _, _, _, _, _, _, _, rfl, _⟩ := h; rfl) | (obtain ⟨_, _, _, _, _, _, _, _, _, _, _, rfl, _⟩ := h; rfl) | (obtain ⟨_, _, _, _, _, _, _, _, _, _, _, _, rfl, _⟩ := h; rfl) | (obtain ⟨_, _, _, _, _, _, _, _, _, _, _, _, _, rfl, _⟩ := h; rfl)

  · obtain ⟨a, l, rfl, ⟨p, rfl, hp⟩, l12, hx, q⟩ := h
    repeat wtm_at "lwst"
    refine st_sortedRev hp fun ns sp H1 hperm hs hsn e1 hsp => ?_
    rw [sortDown_is hperm hs] at hsp
    repeat wtm_at "lwst"
    exact ⟨_, sortDown l, rfl, ⟨sp, rfl, SqL.of hsp⟩, by rw [sortDown_len]; exact l12, fun x h => hx x (sortDown_mem h), fun y H2 e2 hy => q y H2 (e1.trans e2) hy⟩
def upTo (l : List Nat) (j i : Nat) : Nat := ((List.range i).filter fun i => decide (l.getD i 0 < l.getD j 0)).length
theorem upTo_more (l : List Nat) (j i : Nat) : upTo l j (i + 1) = upTo l j i + (if l.getD i 0 < l.getD j 0 then 1 else 0) := by
  unfold upTo
  rw [List.range_succ, List.filter_append, List.length_append, List.filter_cons]
  by_cases h : l.getD i 0 < l.getD j 0
  · rw [if_pos h, if_pos (decide_eq_true h)]
    rfl
  · rw [if_neg h, if_neg (by simpa using h)]
    rfl
theorem nsum_app (l m : List Nat) : (l ++ m).sum = l.sum + m.sum := by
  induction l with
  | nil => simp
  | cons x r ih => rw [List.cons_append, List.sum_cons, List.sum_cons, ih]; omega
def sp_rising_pairs (K : PySem.W.Frag) (C : Addr) : Sp := fun vs H Q _ => ∃ (a : V) (l : List Nat), vs = [a] ∧ Ns K H a l ∧ l.length ≤ 12 ∧ Q (.int ((rising l : Nat) : Int)) H
abbrev s_rising_pairs : Stmt := top 99
theorem sc_rising_pairs : FnScope ["numbers", "found", "later", "at"] ["numbers"] (defScope s_rising_pairs) := ⟨rfl, rfl, rfl, by decide +kernel, rfl, by decide +kernel, by decide +kernel⟩
theorem ok_rising_pairs (T : Tx K mg az an aw d1 d2 d3 C) (h : Has K mg "rising_pairs" s_rising_pairs ["numbers"]) :
    Ok P w K mg base "rising_pairs" 1 ["numbers"] (sp_rising_pairs K C) := by
  refine ok_of h sc_rising_pairs (fun vs H Q E h => ?_) (fun f cdv A outer s H vs Q E hr h => ⟨_, (pss_cons (ps_set (i := 1) sc_rising_pairs.nd rfl (Or.inl rfl) pe_int)
      (pss_cons (ps_for PassesOwn.never rfl (pi_range1 (by rfl) T.b_range (pa_cons (pe_callB (cb_lenK (K := K) rfl) (by rfl) T.b_len PySem.boot_len (pa_cons (pv 0) pa_nil)) pa_nil)) (pg_name (i := 2) sc_rising_pairs.nd rfl (Or.inl rfl)) (pss_one (ps_for PassesOwn.never rfl (pi_range1 (by rfl) T.b_range (pa_cons (pv 2) pa_nil)) (pg_name (i := 3) sc_rising_pairs.nd rfl (Or.inl rfl)) (pss_one (ps_if (pt_cmpR op_lt (pe_ix (ix_listK (K := K) rfl) (pv 0) (pv 3) (fun _ _ => rfl)) (pe_ix (ix_listK (K := K) rfl) (pv 0) (pv 2) (fun _ _ => rfl)) (nomark _)) (pss_one (ps_set (i := 1) sc_rising_pairs.nd rfl (Or.inl rfl) (pe_op op_add (pv 1) pe_int))) pss_nil)))))
      (pss_one (ps_ret (pv 1))))), ?_⟩)
  · first | (obtain ⟨_, rfl, _⟩ := h; rfl) | (obtain ⟨_, _, rfl, _⟩ := h; rfl) | (obtain ⟨_, _, _, rfl, _⟩ := h; rfl) | (obtain ⟨_, _, _, _, rfl, _⟩ := h; rfl) | (obtain ⟨_, _, _, _, _, rfl, _⟩ := h; rfl) | (obtain ⟨_, _, _, _, _, _, rfl, _⟩ := h; rfl) | (obtain ⟨_, _, _, _, _, _, _, rfl, _⟩ := h; rfl) | (obtain ⟨_, _, _, _, _, _, _, _, rfl, _⟩ := h; rfl) | (obtain ⟨_, _, _, _, _, _, _, _, _, rfl, _⟩ := h; rfl) | (obtain ⟨_, _, _, _, _, _, _, _, _, _, rfl, _⟩ := h; rfl) | (obtain ⟨_, _, _, _, _, _, _, _, _, _, _, rfl, _⟩ := h; rfl) | (obtain ⟨_, _, _, _, _, _, _, _, _, _, _, _, rfl, _⟩ := h; rfl) | (obtain ⟨_, _, _, _, _, _, _, _, _, _, _, _, _, rfl, _⟩ := h; rfl)

  · obtain ⟨a, l, rfl, ⟨p, rfl, hp⟩, l12, q⟩ := h
    repeat wtm_at "lwst"
    refine st_len hp ?_
    repeat wtm_at "lwst"
    rw [nzV_len]
    refine go_forR (H0 := H) (n := l.length) (by omega) (Same.refl H) (fun j σ H1 => H1 = H ∧ ∃ o1 o2, σ = [some (.ref p), some (.int ((((List.range j).map fun j => upTo l j j).sum : Nat) : Int)), o1, o2]) ⟨rfl, none, none, rfl⟩ ?_ ?_
    · rintro j σ H1 hj e ⟨rfl, o1, o2, rfl⟩
      repeat wtm_at "lwst"
      refine go_forR (H0 := H1) (n := j) (by omega) (Same.refl H1) (fun i σ H2 => H2 = H1 ∧ ∃ o2, σ = [some (.ref p), some (.int ((((List.range j).map fun j => upTo l j j).sum + upTo l j i : Nat) : Int)), some (.int (j : Int)), o2]) ⟨rfl, o2, rfl⟩ ?_ ?_
      · rintro i σ H2 hi e2 ⟨rfl, o2, rfl⟩
        repeat wtm_at "lwst"
        refine st_ixL hp (atI_nat (nz_get (by omega))) ?_
        repeat wtm_at "lwst"
        refine st_ixL hp (atI_nat (nz_get hj)) ?_
        repeat wtm_at "lwst"
        refine cond_2 (fun b => ?_) (fun b => ?_)
        · have hb : l.getD i 0 < l.getD j 0 := by have := of_decide_eq_true b; omega
          repeat wtm_at "lwst"
          refine ⟨Same.refl _, rfl, some (.int (i : Int)), ?_⟩
          rw [upTo_more, if_pos hb]
          rfl
        · have hb : ¬ l.getD i 0 < l.getD j 0 := by have := of_decide_eq_false b; omega
          repeat wtm_at "lwst"
          refine ⟨Same.refl _, rfl, some (.int (i : Int)), ?_⟩
          rw [upTo_more, if_neg hb]
          rfl
      · rintro σ H2 e2 ⟨rfl, o2, rfl⟩
        repeat wtm_at "lwst"
        refine ⟨Same.refl _, rfl, some (.int (j : Int)), o2, ?_⟩
        rw [List.range_succ, List.map_append, nsum_app]
        rfl
    · rintro σ H1 e ⟨rfl, o1, o2, rfl⟩
      repeat wtm_at "lwst"
      exact q
theorem nz_rev (l : List Nat) : ((nz l).map V.int).reverse = (nz l.reverse).map V.int := by
  unfold nz
  rw [← List.map_reverse, ← List.map_reverse]
def sp_falling_pairs (K : PySem.W.Frag) (C : Addr) : Sp := fun vs H Q _ => ∃ (a : V) (l : List Nat), vs = [a] ∧ Ns K H a l ∧ l.length ≤ 12 ∧ ∀ H', Same H H' → Q (.int ((rising l.reverse : Nat) : Int)) H'
abbrev s_falling_pairs : Stmt := top 100
theorem sc_falling_pairs : FnScope ["numbers"] ["numbers"] (defScope s_falling_pairs) := ⟨rfl, rfl, rfl, by decide +kernel, rfl, by decide +kernel, by decide +kernel⟩
theorem ok_falling_pairs (T : Tx K mg az an aw d1 d2 d3 C) (h : Has K mg "falling_pairs" s_falling_pairs ["numbers"]) (O_rising_pairs : Ok P w K mg base "rising_pairs" 1 ["numbers"] (sp_rising_pairs K C)) :
    Ok P w K mg base "falling_pairs" 2 ["numbers"] (sp_falling_pairs K C) := by
  refine ok_of h sc_falling_pairs (fun vs H Q E h => ?_) (fun f cdv A outer s H vs Q E hr h => ⟨_, (pss_one (ps_ret (pe_go O_rising_pairs (hr.mono (by decide)) (by rfl) (pa_cons (pe_revL (pv 0)) pa_nil)))), ?_⟩)
  · first | (obtain ⟨_, rfl, _⟩ := h; rfl) | (obtain ⟨_, _, rfl, _⟩ := h; rfl) | (obtain ⟨_, _, _, rfl, _⟩ := h; rfl) | (obtain ⟨_, _, _, _, rfl, _⟩ := h; rfl) | (obtain ⟨_, _, _, _, _, rfl, _⟩ := h; rfl) | (obtain ⟨_, _, _, _, _, _, rfl, _⟩ := h; rfl) | (obtain ⟨_, _, _, _, _, _, _, rfl, _⟩ := h; rfl) | (obtain ⟨_, _, _, _, _, _, _, _, rfl, _⟩ := h; rfl) | (obtain ⟨_, _, _, _, _, _, _, _, _, rfl, _⟩ := h; rfl) | (obtain ⟨_, _, _, _, _, _, _, _, _, _, rfl, _⟩ := h; rfl) | (obtain ⟨_, _, _, _, _, _, _, _, _, _, _, rfl, _⟩ := h; rfl) | (obtain ⟨_, _, _, _, _, _, _, _, _, _, _, _, rfl, _⟩ := h; rfl) | (obtain ⟨_, _, _, _, _, _, _, _, _, _, _, _, _, rfl, _⟩ := h; rfl)

  · obtain ⟨a, l, rfl, ⟨p, rfl, hp⟩, l12, q⟩ := h
    repeat wtm_at "lwst"
    refine go_rev hp fun rp H1 hrn e1 hrp => ?_
    rw [nz_rev] at hrp
    repeat wtm_at "lwst"
    exact ⟨_, l.reverse, rfl, ⟨rp, rfl, SqL.of hrp⟩, by rw [List.length_reverse]; exact l12, q H1 e1⟩
def sp_pairs_of (K : PySem.W.Frag) (C : Addr) : Sp := fun vs H Q _ => ∃ n : Nat, vs = [.int (n : Int)] ∧ 1 ≤ n ∧ n ≤ 12 ∧ Q (.int ((n * (n - 1) / 2 : Nat) : Int)) H
abbrev s_pairs_of : Stmt := top 101
theorem sc_pairs_of : FnScope ["many"] ["many"] (defScope s_pairs_of) := ⟨rfl, rfl, rfl, by decide +kernel, rfl, by decide +kernel, by decide +kernel⟩
theorem ok_pairs_of (T : Tx K mg az an aw d1 d2 d3 C) (h : Has K mg "pairs_of" s_pairs_of ["many"]) :
    Ok P w K mg base "pairs_of" 1 ["many"] (sp_pairs_of K C) := by
  refine ok_of h sc_pairs_of (fun vs H Q E h => ?_) (fun f cdv A outer s H vs Q E hr h => ⟨_, (pss_one (ps_ret (pe_op op_fdivW (pe_op op_mulW (pv 0) (pe_op op_sub (pv 0) pe_int)) pe_int))), ?_⟩)
  · first | (obtain ⟨_, rfl, _⟩ := h; rfl) | (obtain ⟨_, _, rfl, _⟩ := h; rfl) | (obtain ⟨_, _, _, rfl, _⟩ := h; rfl) | (obtain ⟨_, _, _, _, rfl, _⟩ := h; rfl) | (obtain ⟨_, _, _, _, _, rfl, _⟩ := h; rfl) | (obtain ⟨_, _, _, _, _, _, rfl, _⟩ := h; rfl) | (obtain ⟨_, _, _, _, _, _, _, rfl, _⟩ := h; rfl) | (obtain ⟨_, _, _, _, _, _, _, _, rfl, _⟩ := h; rfl) | (obtain ⟨_, _, _, _, _, _, _, _, _, rfl, _⟩ := h; rfl) | (obtain ⟨_, _, _, _, _, _, _, _, _, _, rfl, _⟩ := h; rfl) | (obtain ⟨_, _, _, _, _, _, _, _, _, _, _, rfl, _⟩ := h; rfl) | (obtain ⟨_, _, _, _, _, _, _, _, _, _, _, _, rfl, _⟩ := h; rfl) | (obtain ⟨_, _, _, _, _, _, _, _, _, _, _, _, _, rfl, _⟩ := h; rfl)

  · obtain ⟨n, rfl, n1, n12, q⟩ := h
    repeat wtm_at "lwst"
    rw [show ((n : Int) - 1) = ((n - 1 : Nat) : Int) by omega]
    refine st_rI (by
      unfold CMulW
      rw [Int.natAbs_natCast, Int.natAbs_natCast]
      have h1 := log2_mono n12
      have h2 := log2_mono (show n - 1 ≤ 12 by omega)
      have h3 : (12 : Nat).log2 = 3 := by decide +kernel
      omega) ?_
    repeat wtm_at "lwst"
    refine st_rI ⟨by decide, by decide +kernel⟩ ?_
    rw [Int.natCast_ediv, Int.natCast_mul] at q
    exact q
end
end Lw

namespace Lw
open PySem PySem.Spec PyProof.Rows L2
local macro_rules | `(tactic| wtm_at "lwsame") => `(tactic| first
  | assumption | exact Same.refl _ | (refine Same.trans (by assumption) ?_; wtm_at "lwsame"))
local macro_rules | `(tactic| wtm_at "lwup") => `(tactic| first
  | assumption
  | ((with_reducible show SqT _ _ _ _); first | (refine sqT_up ?_ (by assumption); wtm_at "lwsame") | (refine KT.sq ?_ _; assumption) | (refine SqT.of ?_; wtm_at "lwup"))
  | ((with_reducible show SqL _ _ _ _); first | (refine sqL_up ?_ (by assumption); wtm_at "lwsame") | (refine SqL.of ?_; wtm_at "lwup"))
  | ((with_reducible show _ = some _); refine (show Same _ _ by wtm_at "lwsame") _ _ (by assumption))
  | ((with_reducible show Fq _ _ _ _); refine Fq.up ?_ (by assumption); wtm_at "lwsame")
  | ((with_reducible show Fs _ _ _ _); refine Fs.up ?_ (by assumption); wtm_at "lwsame")
  | ((with_reducible show Is _ _ _ _); refine Is.up ?_ (by assumption); wtm_at "lwsame")
  | ((with_reducible show Ns _ _ _ _); refine Ns.up ?_ (by assumption); wtm_at "lwsame")
  | ((with_reducible show Eq4 _ _ _ _); refine Eq4.up ?_ (by assumption); wtm_at "lwsame")
  | ((with_reducible show Evs _ _ _ _); refine Evs.up ?_ (by assumption); wtm_at "lwsame"))
local macro_rules | `(tactic| wtm_at "lwst2") => `(tactic| first
  | (with_reducible refine st_drop ?_)
  | (with_reducible refine st_par ?_)
  | (with_reducible refine st_par2 ?_)
  | (with_reducible refine st_un ?_)
  | (with_reducible refine st_rU ?_)
  | (with_reducible refine st_B ?_)
  | (with_reducible refine st_not ?_)
  | (with_reducible refine st_and ?_)
  | (with_reducible refine st_or ?_)
  | (with_reducible refine st_andV ?_)
  | (with_reducible refine st_orV ?_)
  | (with_reducible refine st_isB2 ?_)
  | (with_reducible refine st_ifE ?_)
  | (with_reducible refine st_yes ?_)
  | (with_reducible refine st_forL ?_)
  | (with_reducible refine st_forR ?_)
  | (with_reducible refine st_lcL ?_)
  | (with_reducible refine st_lcR ?_)
  | (with_reducible refine st_lcZ ?_)
  | (with_reducible refine st_bm ?_)
  | (with_reducible refine st_sfld ?_)
  | (with_reducible refine st_gsub ?_)
  | (with_reducible refine st_meth ?_)
  | (with_reducible refine st_sl ?_)
  | (with_reducible refine st_nopart ?_)
  | (with_reducible refine st_part ?_)
  | (with_reducible refine st_isI ?_)
  | (with_reducible refine st_rev ?_)
  | (with_reducible refine st_ckw ?_)
  | (with_reducible refine st_abs ?_)
  | ((with_reducible refine st_eq ?hh ?_); (case hh => exact rfl))
  | ((with_reducible refine st_ne ?hh ?_); (case hh => exact rfl))
  | ((with_reducible refine st_ixT (v := ?vv) (xs := ?xx) ?hh ?hi ?_); (case hh => wtm_at "lwup"); (case hi => exact rfl))
  | ((with_reducible refine st_gtup (xs := ?xx) ?hh ?hi ?_); (case hh => wtm_at "lwup"); (case hi => exact rfl)))
local macro_rules | `(tactic| wtm_at "lwst") => `(tactic| first
  | (with_reducible refine st_cons ?_)
  | ((with_reducible refine st_var (v := ?vv) ?hh ?_); (case hh => exact rfl))
  | (with_reducible refine st_nil ?_)
  | (with_reducible refine st_call ?_)
  | (with_reducible refine st_gname ?_)
  | (with_reducible refine st_c ?_)
  | (with_reducible refine st_seq ?_)
  | (with_reducible refine st_op ?_)
  | (with_reducible refine st_ret ?_)
  | (with_reducible refine st_lst ?_)
  | (with_reducible refine st_gcons ?_)
  | (with_reducible refine st_asg ?_)
  | (with_reducible refine st_isB ?_)
  | (with_reducible refine st_ifS ?_)
  | (with_reducible refine st_nx0 ?_)
  | (with_reducible refine st_test ?_)
  | (with_reducible refine st_fld ?_)
  | (with_reducible refine st_nx ?_)
  | (with_reducible refine st_rI0 ?_)
  | (with_reducible refine st_callB ?_)
  | (with_reducible refine st_gnil ?_)
  | (with_reducible refine st_tup ?_)
  | wtm_at "lwst2")

/-! ## What every operation promises -/
/-- what stood and may not be written stands; what may be written is what could be, or new -/
structure Keep (L : Lay) (H : Hp) (L' : Lay) (H' : Hp) : Prop where
  a : L'.a = L.a
  old : ∀ b o, H b = some o → b ∉ L.F → H' b = some o
  new : ∀ b ∈ L'.F, b ∈ L.F ∨ H b = none
  dom : ∀ b, H' b = none → H b = none
theorem Keep.same {L : Lay} {H H' : Hp} (e : Same H H') : Keep L H L H' := ⟨rfl, fun b o h _ => e b o h, fun b h => .inl h, fun b h => e.free h⟩
/-- how many numbers a call has besides its list -/
def argc (n : Nat) : Nat := [2, 5, 0, 4, 2, 2, 1, 0, 2, 3, 3, 1, 1, 1, 3, 4, 4, 3, 1, 1, 1, 4, 2, 5, 1, 0, 0, 0, 0].getD n 0
structure Okc (n : Nat) (xs row : List Nat) : Prop where
  len : xs.length = argc n
  xs : ∀ x ∈ xs, x ≤ 4294967295
  len12 : row.length ≤ 12
  row : ∀ x ∈ row, x ≤ 4294967295
def Deed (K : PySem.W.Frag) (C : Addr) (n : Nat) : Sp := fun vs H Q _ => ∃ (L : Lay) (m : M) (nv rv : V) (xs row : List Nat), vs = [.ref L.a, nv, rv] ∧ St K C H L m ∧ Wf m ∧ Ns K H nv xs ∧ Ns K H rv row ∧ Okc n xs row ∧
  ∀ p H' L', Keep L H L' H' → St K C H' L' (onM m n xs row).1 → Wf (onM m n xs row).1 → H p = none → H' p = some (.lst ((onM m n xs row).2.map V.int)) → Q (.ref p) H'
/-- an answer -/
abbrev RetA (H : Hp) (Q : VK) (ans : List Int) : Prop := ∀ p H', H p = none → Same H H' → H' p = some (.lst (ans.map V.int)) → Q (.ref p) H'
section
variable {K : PySem.W.Frag} {C : Addr} {H : Hp} {Q : VK} {L : Lay} {m : M} {n : Nat} {xs row : List Nat}
theorem deed_read {ans : List Int} (S : St K C H L m) (W : Wf m) (k : ∀ p H' L', Keep L H L' H' → St K C H' L' (onM m n xs row).1 → Wf (onM m n xs row).1 → H p = none → H' p = some (.lst ((onM m n xs row).2.map V.int)) → Q (.ref p) H')
    (h : onM m n xs row = (m, ans)) : RetA H Q ans := fun p H' hn e hp => by
  refine k p H' L (.same e) ?_ ?_ hn ?_
  · rw [h]
    exact S.up e
  · rw [h]
    exact W
  · rw [h]
    exact hp
theorem RetA.go {ans : List Int} {H' : Hp} (k : RetA H Q ans) (e : Same H H') : RetA H' Q ans := fun p H2 hn e2 hp => k p H2 (e.free hn) (e.trans e2) hp
/-- return [z] -/
theorem ret_one {z : Int} (k : RetA H Q [z]) : newL [.int z] H Q := new_l (by simp) fun p H2 hn e hp => k p H2 hn e hp
theorem len0 {l : List Nat} (h : l.length = 0) : l = [] := List.length_eq_zero_iff.mp h
theorem len1 {l : List Nat} (h : l.length = 1) : ∃ a, l = [a] := by
  match l, h with
  | [a], _ => exact ⟨a, rfl⟩
theorem len2 {l : List Nat} (h : l.length = 2) : ∃ a b, l = [a, b] := by
  match l, h with
  | [a, b], _ => exact ⟨a, b, rfl⟩
theorem len3 {l : List Nat} (h : l.length = 3) : ∃ a b c, l = [a, b, c] := by
  match l, h with
  | [a, b, c], _ => exact ⟨a, b, c, rfl⟩
theorem len4 {l : List Nat} (h : l.length = 4) : ∃ a b c d, l = [a, b, c, d] := by
  match l, h with
  | [a, b, c, d], _ => exact ⟨a, b, c, d, rfl⟩
theorem len5 {l : List Nat} (h : l.length = 5) : ∃ a b c d e, l = [a, b, c, d, e] := by
  match l, h with
  | [a, b, c, d, e], _ => exact ⟨a, b, c, d, e, rfl⟩
theorem pol_lt {k : Nat} (h : isPol k = true) : k < 3 := by
  unfold isPol at h
  have := of_decide_eq_true h
  omega
theorem est_lim {kind limit : Nat} (h : isEst kind limit = true) : kind ≤ 3 ∧ limit ≤ 100000 := by
  unfold isEst at h
  simp at h
  omega
/-- [z] + numbers_of([r]): what is left behind the first list -/
theorem fs_one {v : V} {p : Addr} {r : Rw} (hp : H p = some (.lst [v])) (h : Fq K H v r) : Fs K H (.ref p) [r] := ⟨p, [v], rfl, SqL.of hp, .one h⟩
theorem fs_two {u v : V} {p : Addr} {r s : Rw} (hp : H p = some (.lst [u, v])) (h : Fq K H u r) (h2 : Fq K H v s) : Fs K H (.ref p) [r, s] := ⟨p, [u, v], rfl, SqL.of hp, .cons h (.one h2)⟩
/-- [z] + numbers_of(rs), the first list and rs at hand -/
theorem cat_frs {z : List Int} {p b : Addr} {rs : List Rw} (hz : z.length ≤ 1000) (hl : rs.length ≤ 1000) (hp : H p = some (.lst (z.map V.int))) (hb : H b = some (.lst ((frs rs).map V.int))) (k : RetA H Q (z ++ frs rs)) : rCat (.ref p) (.ref b) H Q :=
  st_cat hp hb (by rw [List.length_map, List.length_map, frs_len]; omega) fun q H2 hn e hq => k q H2 hn e (by rw [List.map_append]; exact hq)
end
section
variable {P : Program} {w : World} {K : PySem.W.Frag} {mg : Str → Option Value} {base : Heap} {az an aw d1 d2 d3 C : Addr}

def sp_code_of (K : PySem.W.Frag) (C : Addr) : Sp := fun vs H Q _ => ∃ (L : Lay) (m : M) (pv : V) (ks : List Nat) (kind limit least : Nat), vs = [.ref L.a, pv, .int (kind : Int), .int (limit : Int), .int (least : Int)] ∧ St K C H L m ∧ Ns K H pv ks ∧ Q (.int (code m ks kind limit least)) H
abbrev s_code_of : Stmt := top 114
theorem sc_code_of : FnScope ["study", "policies", "kind", "limit", "least_events", "policy"] ["study", "policies", "kind", "limit", "least_events"] (defScope s_code_of) := ⟨rfl, rfl, rfl, by decide +kernel, rfl, by decide +kernel, by decide +kernel⟩
theorem ok_code_of (T : Tx K mg az an aw d1 d2 d3 C) (h : Has K mg "code_of" s_code_of ["study", "policies", "kind", "limit", "least_events"]) (O_is_estimator : Ok P w K mg base "is_estimator" 2 ["kind", "limit"] (sp_is_estimator K C)) (O_is_policy : Ok P w K mg base "is_policy" 2 ["policy"] (sp_is_policy K C)) :
    Ok P w K mg base "code_of" 3 ["study", "policies", "kind", "limit", "least_events"] (sp_code_of K C) := by
  refine ok_of h sc_code_of (fun vs H Q E h => ?_) (fun f cdv A outer s H vs Q E hr h => ⟨_, (pss_cons (ps_for PassesOwn.never rfl (pi_list (pv 1)) (pg_name (i := 5) sc_code_of.nd rfl (Or.inl rfl)) (pss_one (ps_if (pt_not (pt_val (pe_go O_is_policy (hr.mono (by decide)) (by rfl) (pa_cons (pv 5) pa_nil)))) (pss_one (ps_ret (pe_globI (by rfl) T.m_NOT_THERE))) pss_nil)))
      (pss_cons (ps_if (pt_not (pt_val (pe_go O_is_estimator (hr.mono (by decide)) (by rfl) (pa_cons (pv 2) (pa_cons (pv 3) pa_nil))))) (pss_one (ps_ret (pe_globI (by rfl) T.m_OUTSIDE))) pss_nil)
      (pss_one (ps_ret (pe_ifExp (pt_cmpR op_ge (pe_callB (cb_lenK (K := K) rfl) (by rfl) T.b_len PySem.boot_len (pa_cons (pe_fldK (K := K) rfl (pv 0) rfl) pa_nil)) (pv 4) (nomark _)) (pe_globI (by rfl) T.m_FINE) (pe_globI (by rfl) T.m_NOT_ENOUGH)))))), ?_⟩)
  · first | (obtain ⟨_, rfl, _⟩ := h; rfl) | (obtain ⟨_, _, rfl, _⟩ := h; rfl) | (obtain ⟨_, _, _, rfl, _⟩ := h; rfl) | (obtain ⟨_, _, _, _, rfl, _⟩ := h; rfl) | (obtain ⟨_, _, _, _, _, rfl, _⟩ := h; rfl) | (obtain ⟨_, _, _, _, _, _, rfl, _⟩ := h; rfl) | (obtain ⟨_, _, _, _, _, _, _, rfl, _⟩ := h; rfl) | (obtain ⟨_, _, _, _, _, _, _, _, rfl, _⟩ := h; rfl) | (obtain ⟨_, _, _, _, _, _, _, _, _, rfl, _⟩ := h; rfl) | (obtain ⟨_, _, _, _, _, _, _, _, _, _, rfl, _⟩ := h; rfl) | (obtain ⟨_, _, _, _, _, _, _, _, _, _, _, rfl, _⟩ := h; rfl) | (obtain ⟨_, _, _, _, _, _, _, _, _, _, _, _, rfl, _⟩ := h; rfl) | (obtain ⟨_, _, _, _, _, _, _, _, _, _, _, _, _, rfl, _⟩ := h; rfl)

  · obtain ⟨L, m, pv, ks, kind, limit, least, rfl, S, ⟨p, rfl, hp⟩, q⟩ := h
    obtain ⟨xs, hx, hxs⟩ := S.evs
    repeat wtm_at "lwst"
    refine go_forL (H0 := H) (Same.refl H) hp (fun i σ H1 => H1 = H ∧ (ks.take i).all isPol = true ∧ ∃ o, σ = [some (.ref L.a), some (.ref p), some (.int (kind : Int)), some (.int (limit : Int)), some (.int (least : Int)), o]) ⟨rfl, rfl, none, rfl⟩ ?_ ?_
    · rintro i x σ H1 hi e ⟨rfl, ha, o, rfl⟩
      have hlt : i < ks.length := by
        have := (List.getElem?_eq_some_iff.mp hi).1
        rw [nzV_len] at this
        exact this
      have hk : ks[i]? = some ks[i] := List.getElem?_eq_getElem hlt
      rw [nz_get hlt, List.getD_eq_getElem?_getD, hk] at hi
      obtain rfl := Option.some.inj hi
      repeat wtm_at "lwst"
      refine ⟨ks[i], rfl, ?_⟩
      repeat wtm_at "lwst"
      refine cond_2 (fun b => ?_) (fun b => ?_)
      · rw [Bool.not_eq_true'] at b
        repeat wtm_at "lwst"
        have e : ks.all isPol = false := by
          rw [List.all_eq_false]
          exact ⟨_, mem_ix hk, by rw [b]; simp⟩
        unfold code at q
        rw [e, if_neg (by simp)] at q
        exact q
      · rw [Bool.not_eq_false'] at b
        repeat wtm_at "lwst"
        refine ⟨Same.refl _, rfl, ?_, some (.int ((ks[i] : Nat) : Int)), rfl⟩
        rw [List.take_succ, hk, List.all_append, ha]
        show (true && (([ks[i]] : List Nat).all _)) = true
        rw [List.all_cons, b]
        rfl
    · rintro σ H1 e ⟨rfl, ha, o, rfl⟩
      rw [nzV_len, List.take_length] at ha
      unfold code at q
      rw [if_pos ha] at q
      repeat wtm_at "lwst"
      refine ⟨kind, limit, rfl, ?_⟩
      repeat wtm_at "lwst"
      refine cond_2 (fun b => ?_) (fun b => ?_)
      · rw [Bool.not_eq_true'] at b
        rw [b, if_neg (by simp)] at q
        repeat wtm_at "lwst"
        exact q
      · rw [Bool.not_eq_false'] at b
        rw [if_pos b] at q
        repeat wtm_at "lwst"
        refine fl_events T S ?_
        repeat wtm_at "lwst"
        refine st_len hx ?_
        repeat wtm_at "lwst"
        rw [hxs.len]
        refine cond_2 (fun b => ?_) (fun b => ?_)
        · rw [if_pos (by have := of_decide_eq_true b; omega)] at q
          repeat wtm_at "lwst"
          exact q
        · rw [if_neg (by have := of_decide_eq_false b; omega)] at q
          repeat wtm_at "lwst"
          exact q
/-- code = code_of(..); if code != FINE: return [code] -/
theorem code_fine {m : M} {ks : List Nat} {kind limit least : Nat} (h : code m ks kind limit least = 0) : (∀ k ∈ ks, k < 3) ∧ kind ≤ 3 ∧ limit ≤ 100000 ∧ least ≤ m.ev.length := by
  unfold code at h
  split at h
  · rename_i h1
    split at h
    · rename_i h2
      split at h
      · rename_i h3
        have := est_lim h2
        exact ⟨fun k hk => pol_lt (List.all_eq_true.mp h1 k hk), this.1, this.2, h3⟩
      · omega
    · omega
  · omega
end
end Lw

namespace Lw
open PySem PySem.Spec PyProof.Rows L2
local macro_rules | `(tactic| wtm_at "lwsame") => `(tactic| first
  | assumption | exact Same.refl _ | (refine Same.trans (by assumption) ?_; wtm_at "lwsame"))
local macro_rules | `(tactic| wtm_at "lwup") => `(tactic| first
  | assumption
  | ((with_reducible show SqT _ _ _ _); first | (refine sqT_up ?_ (by assumption); wtm_at "lwsame") | (refine KT.sq ?_ _; assumption) | (refine SqT.of ?_; wtm_at "lwup"))
  | ((with_reducible show SqL _ _ _ _); first | (refine sqL_up ?_ (by assumption); wtm_at "lwsame") | (refine SqL.of ?_; wtm_at "lwup"))
  | ((with_reducible show _ = some _); refine (show Same _ _ by wtm_at "lwsame") _ _ (by assumption))
  | ((with_reducible show Fq _ _ _ _); refine Fq.up ?_ (by assumption); wtm_at "lwsame")
  | ((with_reducible show Fs _ _ _ _); refine Fs.up ?_ (by assumption); wtm_at "lwsame")
  | ((with_reducible show Is _ _ _ _); refine Is.up ?_ (by assumption); wtm_at "lwsame")
  | ((with_reducible show Ns _ _ _ _); refine Ns.up ?_ (by assumption); wtm_at "lwsame")
  | ((with_reducible show Eq4 _ _ _ _); refine Eq4.up ?_ (by assumption); wtm_at "lwsame")
  | ((with_reducible show Evs _ _ _ _); refine Evs.up ?_ (by assumption); wtm_at "lwsame"))
local macro_rules | `(tactic| wtm_at "lwst2") => `(tactic| first
  | (with_reducible refine st_drop ?_)
  | (with_reducible refine st_par ?_)
  | (with_reducible refine st_par2 ?_)
  | (with_reducible refine st_un ?_)
  | (with_reducible refine st_rU ?_)
  | (with_reducible refine st_B ?_)
  | (with_reducible refine st_not ?_)
  | (with_reducible refine st_and ?_)
  | (with_reducible refine st_or ?_)
  | (with_reducible refine st_andV ?_)
  | (with_reducible refine st_orV ?_)
  | (with_reducible refine st_isB2 ?_)
  | (with_reducible refine st_ifE ?_)
  | (with_reducible refine st_yes ?_)
  | (with_reducible refine st_forL ?_)
  | (with_reducible refine st_forR ?_)
  | (with_reducible refine st_lcL ?_)
  | (with_reducible refine st_lcR ?_)
  | (with_reducible refine st_lcZ ?_)
  | (with_reducible refine st_bm ?_)
  | (with_reducible refine st_sfld ?_)
  | (with_reducible refine st_gsub ?_)
  | (with_reducible refine st_meth ?_)
  | (with_reducible refine st_sl ?_)
  | (with_reducible refine st_nopart ?_)
  | (with_reducible refine st_part ?_)
  | (with_reducible refine st_isI ?_)
  | (with_reducible refine st_rev ?_)
  | (with_reducible refine st_ckw ?_)
  | (with_reducible refine st_abs ?_)
  | ((with_reducible refine st_eq ?hh ?_); (case hh => exact rfl))
  | ((with_reducible refine st_ne ?hh ?_); (case hh => exact rfl))
  | ((with_reducible refine st_ixT (v := ?vv) (xs := ?xx) ?hh ?hi ?_); (case hh => wtm_at "lwup"); (case hi => exact rfl))
  | ((with_reducible refine st_gtup (xs := ?xx) ?hh ?hi ?_); (case hh => wtm_at "lwup"); (case hi => exact rfl)))
local macro_rules | `(tactic| wtm_at "lwst") => `(tactic| first
  | (with_reducible refine st_cons ?_)
  | ((with_reducible refine st_var (v := ?vv) ?hh ?_); (case hh => exact rfl))
  | (with_reducible refine st_nil ?_)
  | (with_reducible refine st_call ?_)
  | (with_reducible refine st_gname ?_)
  | (with_reducible refine st_c ?_)
  | (with_reducible refine st_seq ?_)
  | (with_reducible refine st_op ?_)
  | (with_reducible refine st_ret ?_)
  | (with_reducible refine st_lst ?_)
  | (with_reducible refine st_gcons ?_)
  | (with_reducible refine st_asg ?_)
  | (with_reducible refine st_isB ?_)
  | (with_reducible refine st_ifS ?_)
  | (with_reducible refine st_nx0 ?_)
  | (with_reducible refine st_test ?_)
  | (with_reducible refine st_fld ?_)
  | (with_reducible refine st_nx ?_)
  | (with_reducible refine st_rI0 ?_)
  | (with_reducible refine st_callB ?_)
  | (with_reducible refine st_gnil ?_)
  | (with_reducible refine st_tup ?_)
  | wtm_at "lwst2")

theorem cond_code {z : Int} {A B : Prop} (h1 : z ≠ 0 → A) (h2 : z = 0 → B) : cond (!decide (V.int z = V.int 0)) A B := by
  by_cases h : z = 0
  · refine cond_f (by rw [h]; simp) (h2 h)
  · refine cond_t (by simp [h]) (h1 h)
section
variable {P : Program} {w : World} {K : PySem.W.Frag} {mg : Str → Option Value} {base : Heap} {az an aw d1 d2 d3 C : Addr}

def sp_has_context (K : PySem.W.Frag) (C : Addr) : Sp := fun vs H Q _ => ∃ (L : Lay) (m : M) (c : Nat), vs = [.ref L.a, .int (c : Int)] ∧ St K C H L m ∧ Q (.bl (isCtx m c)) H
abbrev s_has_context : Stmt := inClass (top 47) 1
theorem sc_has_context : FnScope ["self", "context"] ["self", "context"] (defScope s_has_context) := ⟨rfl, rfl, rfl, by decide +kernel, rfl, by decide +kernel, by decide +kernel⟩
theorem ok_has_context (T : Tx K mg az an aw d1 d2 d3 C) (h : HasM K C "has_context" s_has_context ["self", "context"]) :
    OkM P w K mg base C "has_context" 1 ["self", "context"] (sp_has_context K C) := by
  refine okM_of h sc_has_context (fun vs H Q E h => ?_) (fun f q cdv A outer s H vs Q E hr h => ⟨_, (pss_one (ps_ret (pe_cmpR op_lt (pv 1) (pe_fldK (K := K) rfl (pv 0) rfl) (nomark _)))), ?_⟩)
  · first | (obtain ⟨_, rfl, _⟩ := h; rfl) | (obtain ⟨_, _, rfl, _⟩ := h; rfl) | (obtain ⟨_, _, _, rfl, _⟩ := h; rfl) | (obtain ⟨_, _, _, _, rfl, _⟩ := h; rfl) | (obtain ⟨_, _, _, _, _, rfl, _⟩ := h; rfl) | (obtain ⟨_, _, _, _, _, _, rfl, _⟩ := h; rfl) | (obtain ⟨_, _, _, _, _, _, _, rfl, _⟩ := h; rfl) | (obtain ⟨_, _, _, _, _, _, _, _, rfl, _⟩ := h; rfl) | (obtain ⟨_, _, _, _, _, _, _, _, _, rfl, _⟩ := h; rfl) | (obtain ⟨_, _, _, _, _, _, _, _, _, _, rfl, _⟩ := h; rfl) | (obtain ⟨_, _, _, _, _, _, _, _, _, _, _, rfl, _⟩ := h; rfl) | (obtain ⟨_, _, _, _, _, _, _, _, _, _, _, _, rfl, _⟩ := h; rfl) | (obtain ⟨_, _, _, _, _, _, _, _, _, _, _, _, _, rfl, _⟩ := h; rfl)

  · obtain ⟨L, m, c, rfl, S, q⟩ := h
    repeat wtm_at "lwst"
    refine fl_contexts T S ?_
    repeat wtm_at "lwst"
    rw [show decide ((c : Int) < (m.nc : Int)) = isCtx m c from decide_eq_decide.mpr (by omega)]
    exact q
def sp_has_action (K : PySem.W.Frag) (C : Addr) : Sp := fun vs H Q _ => ∃ (L : Lay) (m : M) (c : Nat), vs = [.ref L.a, .int (c : Int)] ∧ St K C H L m ∧ Q (.bl (isAct m c)) H
abbrev s_has_action : Stmt := inClass (top 47) 2
theorem sc_has_action : FnScope ["self", "action"] ["self", "action"] (defScope s_has_action) := ⟨rfl, rfl, rfl, by decide +kernel, rfl, by decide +kernel, by decide +kernel⟩
theorem ok_has_action (T : Tx K mg az an aw d1 d2 d3 C) (h : HasM K C "has_action" s_has_action ["self", "action"]) :
    OkM P w K mg base C "has_action" 1 ["self", "action"] (sp_has_action K C) := by
  refine okM_of h sc_has_action (fun vs H Q E h => ?_) (fun f q cdv A outer s H vs Q E hr h => ⟨_, (pss_one (ps_ret (pe_cmpR op_lt (pv 1) (pe_fldK (K := K) rfl (pv 0) rfl) (nomark _)))), ?_⟩)
  · first | (obtain ⟨_, rfl, _⟩ := h; rfl) | (obtain ⟨_, _, rfl, _⟩ := h; rfl) | (obtain ⟨_, _, _, rfl, _⟩ := h; rfl) | (obtain ⟨_, _, _, _, rfl, _⟩ := h; rfl) | (obtain ⟨_, _, _, _, _, rfl, _⟩ := h; rfl) | (obtain ⟨_, _, _, _, _, _, rfl, _⟩ := h; rfl) | (obtain ⟨_, _, _, _, _, _, _, rfl, _⟩ := h; rfl) | (obtain ⟨_, _, _, _, _, _, _, _, rfl, _⟩ := h; rfl) | (obtain ⟨_, _, _, _, _, _, _, _, _, rfl, _⟩ := h; rfl) | (obtain ⟨_, _, _, _, _, _, _, _, _, _, rfl, _⟩ := h; rfl) | (obtain ⟨_, _, _, _, _, _, _, _, _, _, _, rfl, _⟩ := h; rfl) | (obtain ⟨_, _, _, _, _, _, _, _, _, _, _, _, rfl, _⟩ := h; rfl) | (obtain ⟨_, _, _, _, _, _, _, _, _, _, _, _, _, rfl, _⟩ := h; rfl)

  · obtain ⟨L, m, c, rfl, S, q⟩ := h
    repeat wtm_at "lwst"
    refine fl_actions T S ?_
    repeat wtm_at "lwst"
    rw [show decide ((c : Int) < (m.na : Int)) = isAct m c from decide_eq_decide.mpr (by omega)]
    exact q
def sp_propensity_asked (K : PySem.W.Frag) (C : Addr) : Sp := Deed K C 9
abbrev s_propensity_asked : Stmt := top 115
theorem sc_propensity_asked : FnScope ["study", "numbers", "row", "policy", "context", "action"] ["study", "numbers", "row"] (defScope s_propensity_asked) := ⟨rfl, rfl, rfl, by decide +kernel, rfl, by decide +kernel, by decide +kernel⟩
theorem ok_propensity_asked (T : Tx K mg az an aw d1 d2 d3 C) (h : Has K mg "propensity_asked" s_propensity_asked ["study", "numbers", "row"]) (O_numbers_of : Ok P w K mg base "numbers_of" 1 ["quotients"] (sp_numbers_of K C)) (O_is_policy : Ok P w K mg base "is_policy" 2 ["policy"] (sp_is_policy K C)) (O_probability : Ok P w K mg base "probability" 3 ["study", "policy", "context", "action"] (sp_probability K C)) (O_has_context : OkM P w K mg base C "has_context" 1 ["self", "context"] (sp_has_context K C)) (O_has_action : OkM P w K mg base C "has_action" 1 ["self", "action"] (sp_has_action K C)) :
    Ok P w K mg base "propensity_asked" 4 ["study", "numbers", "row"] (sp_propensity_asked K C) := by
  refine ok_of h sc_propensity_asked (fun vs H Q E h => ?_) (fun f cdv A outer s H vs Q E hr h => ⟨_, (pss_cons (ps_asg (pv 1) (pg_unlK (K := K) (n := 3) rfl rfl (pgs_cons (pg_name (i := 3) sc_propensity_asked.nd rfl (Or.inl rfl)) (pgs_cons (pg_name (i := 4) sc_propensity_asked.nd rfl (Or.inl rfl)) (pgs_cons (pg_name (i := 5) sc_propensity_asked.nd rfl (Or.inl rfl)) pgs_nil)))))
      (pss_cons (ps_if (PW.pt (pw_or (pt_not (pt_val (pe_go O_is_policy (hr.mono (by decide)) (by rfl) (pa_cons (pv 3) pa_nil)))) (pw_or (pt_not (pt_val (pe_goM (pv 0) T.cl O_has_context (hr.mono (by decide)) (pa_cons (pv 4) pa_nil)))) (pw_or1 (pt_not (pt_val (pe_goM (pv 0) T.cl O_has_action (hr.mono (by decide)) (pa_cons (pv 5) pa_nil)))))))) (pss_one (ps_ret (pe_lst (pa_cons (pe_globI (by rfl) T.m_NOT_THERE) pa_nil)))) pss_nil)
      (pss_one (ps_ret (pe_op op_cat (pe_lst (pa_cons pe_int pa_nil)) (pe_go O_numbers_of (hr.mono (by decide)) (by rfl) (pa_cons (pe_lst (pa_cons (pe_go O_probability (hr.mono (by decide)) (by rfl) (pa_cons (pv 0) (pa_cons (pv 3) (pa_cons (pv 4) (pa_cons (pv 5) pa_nil))))) pa_nil)) pa_nil))))))), ?_⟩)
  · first | (obtain ⟨_, rfl, _⟩ := h; rfl) | (obtain ⟨_, _, rfl, _⟩ := h; rfl) | (obtain ⟨_, _, _, rfl, _⟩ := h; rfl) | (obtain ⟨_, _, _, _, rfl, _⟩ := h; rfl) | (obtain ⟨_, _, _, _, _, rfl, _⟩ := h; rfl) | (obtain ⟨_, _, _, _, _, _, rfl, _⟩ := h; rfl) | (obtain ⟨_, _, _, _, _, _, _, rfl, _⟩ := h; rfl) | (obtain ⟨_, _, _, _, _, _, _, _, rfl, _⟩ := h; rfl) | (obtain ⟨_, _, _, _, _, _, _, _, _, rfl, _⟩ := h; rfl) | (obtain ⟨_, _, _, _, _, _, _, _, _, _, rfl, _⟩ := h; rfl) | (obtain ⟨_, _, _, _, _, _, _, _, _, _, _, rfl, _⟩ := h; rfl) | (obtain ⟨_, _, _, _, _, _, _, _, _, _, _, _, rfl, _⟩ := h; rfl) | (obtain ⟨_, _, _, _, _, _, _, _, _, _, _, _, _, rfl, _⟩ := h; rfl)

  · obtain ⟨L, m, nv, rv, xs, row, rfl, S, W, ⟨p, rfl, hp⟩, hrow, ok, k⟩ := h
    obtain ⟨a, b, c, rfl⟩ := len3 ok.len
    have hp' : SqL K H p [.int (a : Int), .int (b : Int), .int (c : Int)] := hp
    have kA : RetA H Q (oProp m a b c) := deed_read S W k rfl
    unfold oProp at kA
    repeat wtm_at "lwst"
    refine st_gunl hp' rfl ?_
    repeat wtm_at "lwst"
    refine ⟨a, rfl, ?_⟩
    repeat wtm_at "lwst"
    refine cond_2 (fun c1 => ?_) (fun c1 => ?_)
    · rw [Bool.not_eq_true'] at c1
      rw [c1] at kA
      repeat wtm_at "lwst"
      exact ret_one kA
    rw [Bool.not_eq_false'] at c1
    repeat wtm_at "lwst"
    refine meth_go S (by decide +kernel) ?_
    repeat wtm_at "lwst"
    refine ⟨L, m, b, rfl, S, ?_⟩
    repeat wtm_at "lwst"
    refine cond_2 (fun c2 => ?_) (fun c2 => ?_)
    · rw [Bool.not_eq_true'] at c2
      rw [c1, c2] at kA
      repeat wtm_at "lwst"
      exact ret_one kA
    rw [Bool.not_eq_false'] at c2
    repeat wtm_at "lwst"
    refine meth_go S (by decide +kernel) ?_
    repeat wtm_at "lwst"
    refine ⟨L, m, c, rfl, S, ?_⟩
    repeat wtm_at "lwst"
    refine cond_2 (fun c3 => ?_) (fun c3 => ?_)
    · rw [Bool.not_eq_true'] at c3
      rw [c1, c2, c3] at kA
      repeat wtm_at "lwst"
      exact ret_one kA
    rw [Bool.not_eq_false'] at c3
    rw [c1, c2, c3, if_pos (by rfl)] at kA
    repeat wtm_at "lwst"
    refine new_l (by simp) fun p0 H1 h0n e1 h0 => ?_
    repeat wtm_at "lwst"
    refine ⟨L, m, a, b, c, rfl, S.up e1, W, pol_lt c1, of_decide_eq_true c2, of_decide_eq_true c3, fun y H2 e2 hy => ?_⟩
    repeat wtm_at "lwst"
    refine new_l (by simp) fun p1 H3 h1n e3 h1 => ?_
    repeat wtm_at "lwst"
    refine ⟨_, [_], rfl, fs_one h1 (hy.up e3), by simp, fun p2 H4 h2n e4 h2 => ?_⟩
    repeat wtm_at "lwst"
    exact cat_frs (z := [0]) (by simp) (by simp) (e4 _ _ (e3 _ _ (e2 _ _ h0))) h2 (kA.go (((e1.trans e2).trans e3).trans e4))
def sp_estimate (K : PySem.W.Frag) (C : Addr) : Sp := Deed K C 10
abbrev s_estimate : Stmt := top 116
theorem sc_estimate : FnScope ["study", "numbers", "row", "policy", "kind", "limit", "code"] ["study", "numbers", "row"] (defScope s_estimate) := ⟨rfl, rfl, rfl, by decide +kernel, rfl, by decide +kernel, by decide +kernel⟩
theorem ok_estimate (T : Tx K mg az an aw d1 d2 d3 C) (h : Has K mg "estimate" s_estimate ["study", "numbers", "row"]) (O_code_of : Ok P w K mg base "code_of" 3 ["study", "policies", "kind", "limit", "least_events"] (sp_code_of K C)) (O_numbers_of : Ok P w K mg base "numbers_of" 1 ["quotients"] (sp_numbers_of K C)) (O_mean : Ok P w K mg base "mean" 5 ["quotients"] (sp_mean K C)) (O_terms : Ok P w K mg base "terms" 7 ["study", "policy", "kind", "limit"] (sp_terms K C)) :
    Ok P w K mg base "estimate" 8 ["study", "numbers", "row"] (sp_estimate K C) := by
  refine ok_of h sc_estimate (fun vs H Q E h => ?_) (fun f cdv A outer s H vs Q E hr h => ⟨_, (pss_cons (ps_asg (pv 1) (pg_unlK (K := K) (n := 3) rfl rfl (pgs_cons (pg_name (i := 3) sc_estimate.nd rfl (Or.inl rfl)) (pgs_cons (pg_name (i := 4) sc_estimate.nd rfl (Or.inl rfl)) (pgs_cons (pg_name (i := 5) sc_estimate.nd rfl (Or.inl rfl)) pgs_nil)))))
      (pss_cons (ps_set (i := 6) sc_estimate.nd rfl (Or.inl rfl) (pe_go O_code_of (hr.mono (by decide)) (by rfl) (pa_cons (pv 0) (pa_cons (pe_lst (pa_cons (pv 3) pa_nil)) (pa_cons (pv 4) (pa_cons (pv 5) (pa_cons pe_int pa_nil)))))))
      (pss_cons (ps_if (pt_cmpR op_ne (pv 6) (pe_globI (by rfl) T.m_FINE) (nomark _)) (pss_one (ps_ret (pe_lst (pa_cons (pv 6) pa_nil)))) pss_nil)
      (pss_one (ps_ret (pe_op op_cat (pe_lst (pa_cons pe_int pa_nil)) (pe_go O_numbers_of (hr.mono (by decide)) (by rfl) (pa_cons (pe_lst (pa_cons (pe_go O_mean (hr.mono (by decide)) (by rfl) (pa_cons (pe_go O_terms (hr.mono (by decide)) (by rfl) (pa_cons (pv 0) (pa_cons (pv 3) (pa_cons (pv 4) (pa_cons (pv 5) pa_nil))))) pa_nil)) pa_nil)) pa_nil)))))))), ?_⟩)
  · first | (obtain ⟨_, rfl, _⟩ := h; rfl) | (obtain ⟨_, _, rfl, _⟩ := h; rfl) | (obtain ⟨_, _, _, rfl, _⟩ := h; rfl) | (obtain ⟨_, _, _, _, rfl, _⟩ := h; rfl) | (obtain ⟨_, _, _, _, _, rfl, _⟩ := h; rfl) | (obtain ⟨_, _, _, _, _, _, rfl, _⟩ := h; rfl) | (obtain ⟨_, _, _, _, _, _, _, rfl, _⟩ := h; rfl) | (obtain ⟨_, _, _, _, _, _, _, _, rfl, _⟩ := h; rfl) | (obtain ⟨_, _, _, _, _, _, _, _, _, rfl, _⟩ := h; rfl) | (obtain ⟨_, _, _, _, _, _, _, _, _, _, rfl, _⟩ := h; rfl) | (obtain ⟨_, _, _, _, _, _, _, _, _, _, _, rfl, _⟩ := h; rfl) | (obtain ⟨_, _, _, _, _, _, _, _, _, _, _, _, rfl, _⟩ := h; rfl) | (obtain ⟨_, _, _, _, _, _, _, _, _, _, _, _, _, rfl, _⟩ := h; rfl)

  · obtain ⟨L, m, nv, rv, xs, row, rfl, S, W, ⟨p, rfl, hp⟩, hrow, ok, k⟩ := h
    obtain ⟨a, b, c, rfl⟩ := len3 ok.len
    have hp' : SqL K H p [.int (a : Int), .int (b : Int), .int (c : Int)] := hp
    have kA : RetA H Q (oEst m a b c) := deed_read S W k rfl
    unfold oEst at kA
    repeat wtm_at "lwst"
    refine st_gunl hp' rfl ?_
    repeat wtm_at "lwst"
    refine new_l (by simp) fun pl H1 hln e1 hl => ?_
    repeat wtm_at "lwst"
    refine ⟨L, m, _, [a], b, c, 1, rfl, S.up e1, ⟨pl, rfl, SqL.of hl⟩, ?_⟩
    repeat wtm_at "lwst"
    refine cond_code (fun cz => ?_) (fun cz => ?_)
    · rw [if_neg cz] at kA
      repeat wtm_at "lwst"
      exact ret_one (kA.go e1)
    rw [if_pos cz] at kA
    obtain ⟨f1, f2, f3, f4⟩ := code_fine cz
    have ha := f1 a (by simp)
    repeat wtm_at "lwst"
    refine new_l (by simp) fun p0 H2 h0n e2 h0 => ?_
    repeat wtm_at "lwst"
    refine ⟨L, m, a, b, c, rfl, (S.up e1).up e2, W, ha, f3, fun v H3 e3 hv => ?_⟩
    repeat wtm_at "lwst"
    have tl : (terms m a b c).length = m.ev.length := List.length_map _
    have := W.ev40
    refine ⟨v, _, rfl, hv, ps_terms W ha f3, by omega, by omega, fun y H4 e4 hy => ?_⟩
    repeat wtm_at "lwst"
    refine new_l (by simp) fun p1 H5 h1n e5 h1 => ?_
    repeat wtm_at "lwst"
    refine ⟨_, [_], rfl, fs_one h1 (hy.up e5), by simp, fun p2 H6 h2n e6 h2 => ?_⟩
    repeat wtm_at "lwst"
    exact cat_frs (z := [0]) (by simp) (by simp) (e6 _ _ (e5 _ _ (e4 _ _ (e3 _ _ h0)))) h2 (kA.go (((((e1.trans e2).trans e3).trans e4).trans e5).trans e6))
end
end Lw

namespace Lw
open PySem PySem.Spec PyProof.Rows L2
local macro_rules | `(tactic| wtm_at "lwsame") => `(tactic| first
  | assumption | exact Same.refl _ | (refine Same.trans (by assumption) ?_; wtm_at "lwsame"))
local macro_rules | `(tactic| wtm_at "lwup") => `(tactic| first
  | assumption
  | ((with_reducible show SqT _ _ _ _); first | (refine sqT_up ?_ (by assumption); wtm_at "lwsame") | (refine KT.sq ?_ _; assumption) | (refine SqT.of ?_; wtm_at "lwup"))
  | ((with_reducible show SqL _ _ _ _); first | (refine sqL_up ?_ (by assumption); wtm_at "lwsame") | (refine SqL.of ?_; wtm_at "lwup"))
  | ((with_reducible show _ = some _); refine (show Same _ _ by wtm_at "lwsame") _ _ (by assumption))
  | ((with_reducible show Fq _ _ _ _); refine Fq.up ?_ (by assumption); wtm_at "lwsame")
  | ((with_reducible show Fs _ _ _ _); refine Fs.up ?_ (by assumption); wtm_at "lwsame")
  | ((with_reducible show Is _ _ _ _); refine Is.up ?_ (by assumption); wtm_at "lwsame")
  | ((with_reducible show Ns _ _ _ _); refine Ns.up ?_ (by assumption); wtm_at "lwsame")
  | ((with_reducible show Eq4 _ _ _ _); refine Eq4.up ?_ (by assumption); wtm_at "lwsame")
  | ((with_reducible show Evs _ _ _ _); refine Evs.up ?_ (by assumption); wtm_at "lwsame"))
local macro_rules | `(tactic| wtm_at "lwst2") => `(tactic| first
  | (with_reducible refine st_drop ?_)
  | (with_reducible refine st_par ?_)
  | (with_reducible refine st_par2 ?_)
  | (with_reducible refine st_un ?_)
  | (with_reducible refine st_rU ?_)
  | (with_reducible refine st_B ?_)
  | (with_reducible refine st_not ?_)
  | (with_reducible refine st_and ?_)
  | (with_reducible refine st_or ?_)
  | (with_reducible refine st_andV ?_)
  | (with_reducible refine st_orV ?_)
  | (with_reducible refine st_isB2 ?_)
  | (with_reducible refine st_ifE ?_)
  | (with_reducible refine st_yes ?_)
  | (with_reducible refine st_forL ?_)
  | (with_reducible refine st_forR ?_)
  | (with_reducible refine st_lcL ?_)
  | (with_reducible refine st_lcR ?_)
  | (with_reducible refine st_lcZ ?_)
  | (with_reducible refine st_bm ?_)
  | (with_reducible refine st_sfld ?_)
  | (with_reducible refine st_gsub ?_)
  | (with_reducible refine st_meth ?_)
  | (with_reducible refine st_sl ?_)
  | (with_reducible refine st_nopart ?_)
  | (with_reducible refine st_part ?_)
  | (with_reducible refine st_isI ?_)
  | (with_reducible refine st_rev ?_)
  | (with_reducible refine st_ckw ?_)
  | (with_reducible refine st_abs ?_)
  | ((with_reducible refine st_eq ?hh ?_); (case hh => exact rfl))
  | ((with_reducible refine st_ne ?hh ?_); (case hh => exact rfl))
  | ((with_reducible refine st_ixT (v := ?vv) (xs := ?xx) ?hh ?hi ?_); (case hh => wtm_at "lwup"); (case hi => exact rfl))
  | ((with_reducible refine st_gtup (xs := ?xx) ?hh ?hi ?_); (case hh => wtm_at "lwup"); (case hi => exact rfl)))
local macro_rules | `(tactic| wtm_at "lwst") => `(tactic| first
  | (with_reducible refine st_cons ?_)
  | ((with_reducible refine st_var (v := ?vv) ?hh ?_); (case hh => exact rfl))
  | (with_reducible refine st_nil ?_)
  | (with_reducible refine st_call ?_)
  | (with_reducible refine st_gname ?_)
  | (with_reducible refine st_c ?_)
  | (with_reducible refine st_seq ?_)
  | (with_reducible refine st_op ?_)
  | (with_reducible refine st_ret ?_)
  | (with_reducible refine st_lst ?_)
  | (with_reducible refine st_gcons ?_)
  | (with_reducible refine st_asg ?_)
  | (with_reducible refine st_isB ?_)
  | (with_reducible refine st_ifS ?_)
  | (with_reducible refine st_nx0 ?_)
  | (with_reducible refine st_test ?_)
  | (with_reducible refine st_fld ?_)
  | (with_reducible refine st_nx ?_)
  | (with_reducible refine st_rI0 ?_)
  | (with_reducible refine st_callB ?_)
  | (with_reducible refine st_gnil ?_)
  | (with_reducible refine st_tup ?_)
  | wtm_at "lwst2")

section
variable {P : Program} {w : World} {K : PySem.W.Frag} {mg : Str → Option Value} {base : Heap} {az an aw d1 d2 d3 C : Addr}

theorem pos_of {x : Rw} (h : 0 ≤ x) (h2 : x ≠ 0) : 0 < x := Rat.lt_of_le_of_ne h (Ne.symm h2)
def sp_normalized (K : PySem.W.Frag) (C : Addr) : Sp := Deed K C 11
abbrev s_normalized : Stmt := top 117
theorem sc_normalized : FnScope ["study", "numbers", "row", "rewarded", "weight"] ["study", "numbers", "row"] (defScope s_normalized) := ⟨rfl, rfl, rfl, by decide +kernel, rfl, by decide +kernel, by decide +kernel⟩
theorem ok_normalized (T : Tx K mg az an aw d1 d2 d3 C) (h : Has K mg "normalized" s_normalized ["study", "numbers", "row"]) (O_normalized_parts : Ok P w K mg base "normalized_parts" 6 ["study", "policy"] (sp_normalized_parts K C)) (O_is_policy : Ok P w K mg base "is_policy" 2 ["policy"] (sp_is_policy K C)) (O_numbers_of : Ok P w K mg base "numbers_of" 1 ["quotients"] (sp_numbers_of K C)) (O_over : Ok P w K mg base "over" 3 ["one", "other"] (sp_over K C)) :
    Ok P w K mg base "normalized" 7 ["study", "numbers", "row"] (sp_normalized K C) := by
  refine ok_of h sc_normalized (fun vs H Q E h => ?_) (fun f cdv A outer s H vs Q E hr h => ⟨_, (pss_cons (ps_if (pt_not (pt_val (pe_go O_is_policy (hr.mono (by decide)) (by rfl) (pa_cons (pe_ix (ix_listK (K := K) rfl) (pv 1) pe_int (fun _ _ => rfl)) pa_nil)))) (pss_one (ps_ret (pe_lst (pa_cons (pe_globI (by rfl) T.m_NOT_THERE) pa_nil)))) pss_nil)
      (pss_cons (ps_asg (pe_go O_normalized_parts (hr.mono (by decide)) (by rfl) (pa_cons (pv 0) (pa_cons (pe_ix (ix_listK (K := K) rfl) (pv 1) pe_int (fun _ _ => rfl)) pa_nil))) (pg_tupK (K := K) (n := 2) rfl rfl (pgs_cons (pg_name (i := 3) sc_normalized.nd rfl (Or.inl rfl)) (pgs_cons (pg_name (i := 4) sc_normalized.nd rfl (Or.inl rfl)) pgs_nil))))
      (pss_cons (ps_if (pt_cmpR (op_eqD hr.units) (pv 4) (pe_globR (by rfl) T.m_ZERO) (nomark _)) (pss_one (ps_ret (pe_lst (pa_cons (pe_globI (by rfl) T.m_NOT_ENOUGH) pa_nil)))) pss_nil)
      (pss_one (ps_ret (pe_op op_cat (pe_lst (pa_cons pe_int pa_nil)) (pe_go O_numbers_of (hr.mono (by decide)) (by rfl) (pa_cons (pe_lst (pa_cons (pe_go O_over (hr.mono (by decide)) (by rfl) (pa_cons (pv 3) (pa_cons (pv 4) pa_nil))) pa_nil)) pa_nil)))))))), ?_⟩)
  · first | (obtain ⟨_, rfl, _⟩ := h; rfl) | (obtain ⟨_, _, rfl, _⟩ := h; rfl) | (obtain ⟨_, _, _, rfl, _⟩ := h; rfl) | (obtain ⟨_, _, _, _, rfl, _⟩ := h; rfl) | (obtain ⟨_, _, _, _, _, rfl, _⟩ := h; rfl) | (obtain ⟨_, _, _, _, _, _, rfl, _⟩ := h; rfl) | (obtain ⟨_, _, _, _, _, _, _, rfl, _⟩ := h; rfl) | (obtain ⟨_, _, _, _, _, _, _, _, rfl, _⟩ := h; rfl) | (obtain ⟨_, _, _, _, _, _, _, _, _, rfl, _⟩ := h; rfl) | (obtain ⟨_, _, _, _, _, _, _, _, _, _, rfl, _⟩ := h; rfl) | (obtain ⟨_, _, _, _, _, _, _, _, _, _, _, rfl, _⟩ := h; rfl) | (obtain ⟨_, _, _, _, _, _, _, _, _, _, _, _, rfl, _⟩ := h; rfl) | (obtain ⟨_, _, _, _, _, _, _, _, _, _, _, _, _, rfl, _⟩ := h; rfl)

  · obtain ⟨L, m, nv, rv, xs, row, rfl, S, W, ⟨p, rfl, hp⟩, hrow, ok, k⟩ := h
    obtain ⟨a, rfl⟩ := len1 ok.len
    have hp' : SqL K H p [.int (a : Int)] := hp
    have kA : RetA H Q (oNorm m a) := deed_read S W k rfl
    unfold oNorm at kA
    repeat wtm_at "lwst"
    refine st_ixL hp' (atI_nat (j := 0) rfl) ?_
    repeat wtm_at "lwst"
    refine ⟨a, rfl, ?_⟩
    repeat wtm_at "lwst"
    refine cond_2 (fun c1 => ?_) (fun c1 => ?_)
    · rw [Bool.not_eq_true'] at c1
      rw [c1, if_neg (by simp)] at kA
      repeat wtm_at "lwst"
      exact ret_one kA
    rw [Bool.not_eq_false'] at c1
    rw [if_pos c1] at kA
    have ha := pol_lt c1
    repeat wtm_at "lwst"
    refine st_ixL hp' (atI_nat (j := 0) rfl) ?_
    repeat wtm_at "lwst"
    refine ⟨L, m, a, rfl, S, W, ha, fun v H1 e1 ⟨tp, u1, u2, ev, htp, hu1, hu2⟩ => ?_⟩
    subst ev
    repeat wtm_at "lwst"
    refine st_eqZero hu2 (fq_zero T H1) ?_
    repeat wtm_at "lwst"
    refine cond_2 (fun c2 => ?_) (fun c2 => ?_)
    · rw [if_pos (of_decide_eq_true c2)] at kA
      repeat wtm_at "lwst"
      exact ret_one (kA.go e1)
    have hne := of_decide_eq_false c2
    rw [if_neg hne] at kA
    repeat wtm_at "lwst"
    refine new_l (by simp) fun p0 H2 h0n e2 h0 => ?_
    repeat wtm_at "lwst"
    refine ⟨u1, u2, _, _, rfl, hu1.up e2, hu2.up e2, (ps_rewd W ha).all, (ps_imps W ha).all, pos_of (imps_nonneg W ha) hne, fun y H3 e3 hy => ?_⟩
    repeat wtm_at "lwst"
    refine new_l (by simp) fun p1 H4 h1n e4 h1 => ?_
    repeat wtm_at "lwst"
    refine ⟨_, [_], rfl, fs_one h1 (hy.up e4), by simp, fun p2 H5 h2n e5 h2 => ?_⟩
    repeat wtm_at "lwst"
    exact cat_frs (z := [0]) (by simp) (by simp) (e5 _ _ (e4 _ _ (e3 _ _ h0))) h2 (kA.go ((((e1.trans e2).trans e3).trans e4).trans e5))
def sp_effective_size (K : PySem.W.Frag) (C : Addr) : Sp := Deed K C 13
abbrev s_effective_size : Stmt := top 119
theorem sc_effective_size : FnScope ["study", "numbers", "row", "above", "below"] ["study", "numbers", "row"] (defScope s_effective_size) := ⟨rfl, rfl, rfl, by decide +kernel, rfl, by decide +kernel, by decide +kernel⟩
theorem ok_effective_size (T : Tx K mg az an aw d1 d2 d3 C) (h : Has K mg "effective_size" s_effective_size ["study", "numbers", "row"]) (O_effective_parts : Ok P w K mg base "effective_parts" 6 ["study", "policy"] (sp_effective_parts K C)) (O_is_policy : Ok P w K mg base "is_policy" 2 ["policy"] (sp_is_policy K C)) (O_numbers_of : Ok P w K mg base "numbers_of" 1 ["quotients"] (sp_numbers_of K C)) (O_over : Ok P w K mg base "over" 3 ["one", "other"] (sp_over K C)) :
    Ok P w K mg base "effective_size" 7 ["study", "numbers", "row"] (sp_effective_size K C) := by
  refine ok_of h sc_effective_size (fun vs H Q E h => ?_) (fun f cdv A outer s H vs Q E hr h => ⟨_, (pss_cons (ps_if (pt_not (pt_val (pe_go O_is_policy (hr.mono (by decide)) (by rfl) (pa_cons (pe_ix (ix_listK (K := K) rfl) (pv 1) pe_int (fun _ _ => rfl)) pa_nil)))) (pss_one (ps_ret (pe_lst (pa_cons (pe_globI (by rfl) T.m_NOT_THERE) pa_nil)))) pss_nil)
      (pss_cons (ps_asg (pe_go O_effective_parts (hr.mono (by decide)) (by rfl) (pa_cons (pv 0) (pa_cons (pe_ix (ix_listK (K := K) rfl) (pv 1) pe_int (fun _ _ => rfl)) pa_nil))) (pg_tupK (K := K) (n := 2) rfl rfl (pgs_cons (pg_name (i := 3) sc_effective_size.nd rfl (Or.inl rfl)) (pgs_cons (pg_name (i := 4) sc_effective_size.nd rfl (Or.inl rfl)) pgs_nil))))
      (pss_cons (ps_if (pt_cmpR (op_eqD hr.units) (pv 4) (pe_globR (by rfl) T.m_ZERO) (nomark _)) (pss_one (ps_ret (pe_lst (pa_cons (pe_globI (by rfl) T.m_NOT_ENOUGH) pa_nil)))) pss_nil)
      (pss_one (ps_ret (pe_op op_cat (pe_lst (pa_cons pe_int pa_nil)) (pe_go O_numbers_of (hr.mono (by decide)) (by rfl) (pa_cons (pe_lst (pa_cons (pe_go O_over (hr.mono (by decide)) (by rfl) (pa_cons (pv 3) (pa_cons (pv 4) pa_nil))) pa_nil)) pa_nil)))))))), ?_⟩)
  · first | (obtain ⟨_, rfl, _⟩ := h; rfl) | (obtain ⟨_, _, rfl, _⟩ := h; rfl) | (obtain ⟨_, _, _, rfl, _⟩ := h; rfl) | (obtain ⟨_, _, _, _, rfl, _⟩ := h; rfl) | (obtain ⟨_, _, _, _, _, rfl, _⟩ := h; rfl) | (obtain ⟨_, _, _, _, _, _, rfl, _⟩ := h; rfl) | (obtain ⟨_, _, _, _, _, _, _, rfl, _⟩ := h; rfl) | (obtain ⟨_, _, _, _, _, _, _, _, rfl, _⟩ := h; rfl) | (obtain ⟨_, _, _, _, _, _, _, _, _, rfl, _⟩ := h; rfl) | (obtain ⟨_, _, _, _, _, _, _, _, _, _, rfl, _⟩ := h; rfl) | (obtain ⟨_, _, _, _, _, _, _, _, _, _, _, rfl, _⟩ := h; rfl) | (obtain ⟨_, _, _, _, _, _, _, _, _, _, _, _, rfl, _⟩ := h; rfl) | (obtain ⟨_, _, _, _, _, _, _, _, _, _, _, _, _, rfl, _⟩ := h; rfl)

  · obtain ⟨L, m, nv, rv, xs, row, rfl, S, W, ⟨p, rfl, hp⟩, hrow, ok, k⟩ := h
    obtain ⟨a, rfl⟩ := len1 ok.len
    have hp' : SqL K H p [.int (a : Int)] := hp
    have kA : RetA H Q (oEff m a) := deed_read S W k rfl
    unfold oEff at kA
    repeat wtm_at "lwst"
    refine st_ixL hp' (atI_nat (j := 0) rfl) ?_
    repeat wtm_at "lwst"
    refine ⟨a, rfl, ?_⟩
    repeat wtm_at "lwst"
    refine cond_2 (fun c1 => ?_) (fun c1 => ?_)
    · rw [Bool.not_eq_true'] at c1
      rw [c1, if_neg (by simp)] at kA
      repeat wtm_at "lwst"
      exact ret_one kA
    rw [Bool.not_eq_false'] at c1
    rw [if_pos c1] at kA
    have ha := pol_lt c1
    repeat wtm_at "lwst"
    refine st_ixL hp' (atI_nat (j := 0) rfl) ?_
    repeat wtm_at "lwst"
    refine ⟨L, m, a, rfl, S, W, ha, fun v H1 e1 ⟨tp, u1, u2, ev, htp, hu1, hu2⟩ => ?_⟩
    subst ev
    repeat wtm_at "lwst"
    refine st_eqZero hu2 (fq_zero T H1) ?_
    repeat wtm_at "lwst"
    refine cond_2 (fun c2 => ?_) (fun c2 => ?_)
    · rw [if_pos (of_decide_eq_true c2)] at kA
      repeat wtm_at "lwst"
      exact ret_one (kA.go e1)
    have hne := of_decide_eq_false c2
    rw [if_neg hne] at kA
    repeat wtm_at "lwst"
    refine new_l (by simp) fun p0 H2 h0n e2 h0 => ?_
    repeat wtm_at "lwst"
    refine ⟨u1, u2, _, _, rfl, hu1.up e2, hu2.up e2, bd_sq W ha, (ps_sqs W ha).all, pos_of (sqs_nonneg _) hne, fun y H3 e3 hy => ?_⟩
    repeat wtm_at "lwst"
    refine new_l (by simp) fun p1 H4 h1n e4 h1 => ?_
    repeat wtm_at "lwst"
    refine ⟨_, [_], rfl, fs_one h1 (hy.up e4), by simp, fun p2 H5 h2n e5 h2 => ?_⟩
    repeat wtm_at "lwst"
    exact cat_frs (z := [0]) (by simp) (by simp) (e5 _ _ (e4 _ _ (e3 _ _ h0))) h2 (kA.go ((((e1.trans e2).trans e3).trans e4).trans e5))
theorem play_take {m : M} {k i : Nat} {e : Ev} (h : m.ev[i]? = some e) : (((m.ev.take (i + 1)).filter fun e => e.a == best (wts m k e.c)).map fun e => (e.r : Rw)) = (((m.ev.take i).filter fun e => e.a == best (wts m k e.c)).map fun e => (e.r : Rw)) ++ (if (e.a == best (wts m k e.c)) = true then [(e.r : Rw)] else []) := by
  rw [List.take_succ, h, List.filter_append, List.map_append]
  congr 1
  show (([e] : List Ev).filter _).map _ = _
  rw [List.filter_cons]
  split <;> rfl
def sp_replay (K : PySem.W.Frag) (C : Addr) : Sp := Deed K C 12
abbrev s_replay : Stmt := top 118
theorem sc_replay : FnScope ["study", "numbers", "row", "policy", "found", "event"] ["study", "numbers", "row"] (defScope s_replay) := ⟨rfl, rfl, rfl, by decide +kernel, rfl, by decide +kernel, by decide +kernel⟩
theorem ok_replay (T : Tx K mg az an aw d1 d2 d3 C) (h : Has K mg "replay" s_replay ["study", "numbers", "row"]) (O_is_policy : Ok P w K mg base "is_policy" 2 ["policy"] (sp_is_policy K C)) (O_numbers_of : Ok P w K mg base "numbers_of" 1 ["quotients"] (sp_numbers_of K C)) (O_preferred : Ok P w K mg base "preferred" 1 ["study", "policy", "context"] (sp_preferred K C)) (O_whole : Ok P w K mg base "whole" 1 ["number"] (sp_whole K C)) (O_mean : Ok P w K mg base "mean" 5 ["quotients"] (sp_mean K C)) :
    Ok P w K mg base "replay" 6 ["study", "numbers", "row"] (sp_replay K C) := by
  refine ok_of h sc_replay (fun vs H Q E h => ?_) (fun f cdv A outer s H vs Q E hr h => ⟨_, (pss_cons (ps_set (i := 3) sc_replay.nd rfl (Or.inl rfl) (pe_ix (ix_listK (K := K) rfl) (pv 1) pe_int (fun _ _ => rfl)))
      (pss_cons (ps_if (pt_not (pt_val (pe_go O_is_policy (hr.mono (by decide)) (by rfl) (pa_cons (pv 3) pa_nil)))) (pss_one (ps_ret (pe_lst (pa_cons (pe_globI (by rfl) T.m_NOT_THERE) pa_nil)))) pss_nil)
      (pss_cons (ps_set (i := 4) sc_replay.nd rfl (Or.inl rfl) (pe_lst pa_nil))
      (pss_cons (ps_for PassesOwn.never rfl (pi_list (pe_fldK (K := K) rfl (pv 0) rfl)) (pg_name (i := 5) sc_replay.nd rfl (Or.inl rfl)) (pss_one (ps_if (pt_cmpR op_eq (pe_ix (ix_tupK (K := K) rfl) (pv 5) pe_int (fun _ _ => rfl)) (pe_go O_preferred (hr.mono (by decide)) (by rfl) (pa_cons (pv 0) (pa_cons (pv 3) (pa_cons (pe_ix (ix_tupK (K := K) rfl) (pv 5) pe_int (fun _ _ => rfl)) pa_nil)))) (nomark _)) (pss_one (ps_expr (pe_bm PySem.F.plainAttrs_list PySem.F.slot_list_append PySem.F.type_list_append mt_append (pv 4) (pa_cons (pe_go O_whole (hr.mono (by decide)) (by rfl) (pa_cons (pe_ix (ix_tupK (K := K) rfl) (pv 5) pe_int (fun _ _ => rfl)) pa_nil)) pa_nil)))) pss_nil)))
      (pss_cons (ps_if (pt_cmpR (op_eqD hr.units) (pv 4) (pe_lst pa_nil) (nomark _)) (pss_one (ps_ret (pe_lst (pa_cons (pe_globI (by rfl) T.m_NOT_ENOUGH) pa_nil)))) pss_nil)
      (pss_one (ps_ret (pe_op op_cat (pe_lst (pa_cons (pe_callB (cb_lenK (K := K) rfl) (by rfl) T.b_len PySem.boot_len (pa_cons (pv 4) pa_nil)) pa_nil)) (pe_go O_numbers_of (hr.mono (by decide)) (by rfl) (pa_cons (pe_lst (pa_cons (pe_go O_mean (hr.mono (by decide)) (by rfl) (pa_cons (pv 4) pa_nil)) pa_nil)) pa_nil)))))))))), ?_⟩)
  · first | (obtain ⟨_, rfl, _⟩ := h; rfl) | (obtain ⟨_, _, rfl, _⟩ := h; rfl) | (obtain ⟨_, _, _, rfl, _⟩ := h; rfl) | (obtain ⟨_, _, _, _, rfl, _⟩ := h; rfl) | (obtain ⟨_, _, _, _, _, rfl, _⟩ := h; rfl) | (obtain ⟨_, _, _, _, _, _, rfl, _⟩ := h; rfl) | (obtain ⟨_, _, _, _, _, _, _, rfl, _⟩ := h; rfl) | (obtain ⟨_, _, _, _, _, _, _, _, rfl, _⟩ := h; rfl) | (obtain ⟨_, _, _, _, _, _, _, _, _, rfl, _⟩ := h; rfl) | (obtain ⟨_, _, _, _, _, _, _, _, _, _, rfl, _⟩ := h; rfl) | (obtain ⟨_, _, _, _, _, _, _, _, _, _, _, rfl, _⟩ := h; rfl) | (obtain ⟨_, _, _, _, _, _, _, _, _, _, _, _, rfl, _⟩ := h; rfl) | (obtain ⟨_, _, _, _, _, _, _, _, _, _, _, _, _, rfl, _⟩ := h; rfl)

  · obtain ⟨L, m, nv, rv, xs, row, rfl, S, W, ⟨p, rfl, hp⟩, hrow, ok, k⟩ := h
    obtain ⟨a, rfl⟩ := len1 ok.len
    obtain ⟨ws, hw, hws⟩ := S.evs
    have hp' : SqL K H p [.int (a : Int)] := hp
    have kA : RetA H Q (oReplay m a) := deed_read S W k rfl
    unfold oReplay at kA
    repeat wtm_at "lwst"
    refine st_ixL hp' (atI_nat (j := 0) rfl) ?_
    repeat wtm_at "lwst"
    refine ⟨a, rfl, ?_⟩
    repeat wtm_at "lwst"
    refine cond_2 (fun c1 => ?_) (fun c1 => ?_)
    · rw [Bool.not_eq_true'] at c1
      rw [c1, if_neg (by simp)] at kA
      repeat wtm_at "lwst"
      exact ret_one kA
    rw [Bool.not_eq_false'] at c1
    rw [if_pos c1] at kA
    have hk := pol_lt c1
    repeat wtm_at "lwst"
    refine new_l (by simp) fun l H1 hn e1 hl => ?_
    repeat wtm_at "lwst"
    refine fl_events T (S.up e1) ?_
    repeat wtm_at "lwst"
    refine go_forL (H0 := H) e1 hw (fun i σ H1 => ∃ acc o, H1 l = some (.lst acc) ∧ All2 (Fq K H1) acc (((m.ev.take i).filter fun e => e.a == best (wts m a e.c)).map fun e => (e.r : Rw)) ∧ σ = [some (.ref L.a), some (.ref p), some rv, some (.int (a : Int)), some (.ref l), o]) ⟨[], none, hl, .nil, rfl⟩ ?_ ?_
    · rintro i x σ H2 hi e2 ⟨acc, o, h2, ha, rfl⟩
      obtain ⟨ev, hev, hq0⟩ := hws.get hi
      have he := evs_ok W (mem_ix hev)
      have hq := hq0.up e2
      obtain ⟨ep, z, rfl, hep, hz⟩ := id hq
      have al := ha.len
      rw [List.length_map] at al
      have fl := List.length_filter_le (fun e : Ev => e.a == best (wts m a e.c)) (m.ev.take i)
      rw [List.length_take] at fl
      have := W.ev40
      repeat wtm_at "lwst"
      refine ⟨L, m, a, ev.c, rfl, S.up e2, W, hk, he.1, ?_⟩
      repeat wtm_at "lwst"
      rw [dec_len]
      refine cond_2 (fun b1 => ?_) (fun b1 => ?_)
      · repeat wtm_at "lwst"
        refine bm_list (SqL.of h2) ?_
        repeat wtm_at "lwst"
        refine ⟨_, rfl, fun y H3 e3 hy => ?_⟩
        have h3 := e3 _ _ h2
        repeat wtm_at "lwst"
        refine st_append h3 (by omega) ?_
        repeat wtm_at "lwst"
        refine ⟨same_mut (e2.trans e3) hn, acc ++ [y], some (.ref ep), upd_same, ?_, rfl⟩
        rw [play_take hev, b1, if_pos rfl]
        exact All2.app (ha.imp fun _ _ z => (z.up e3).mut h3) (All2.one (hy.mut h3))
      · repeat wtm_at "lwst"
        refine ⟨e2, acc, some (.ref ep), h2, ?_, rfl⟩
        rw [play_take hev, b1, if_neg (by simp), List.append_nil]
        exact ha
    · rintro σ H2 e2 ⟨acc, o, h2, ha, rfl⟩
      rw [hws.len, List.take_length] at ha
      have hf : Fs K H2 (.ref l) (played m a) := ⟨l, acc, rfl, SqL.of h2, ha⟩
      repeat wtm_at "lwst"
      refine new_l (by simp) fun n2 H3 hn2 e3 h3 => ?_
      refine st_eqNil (hf.up e3) h3 ?_
      repeat wtm_at "lwst"
      refine cond_2 (fun b => ?_) (fun b => ?_)
      · rw [if_pos (empty_t b)] at kA
        repeat wtm_at "lwst"
        exact ret_one (kA.go (e2.trans e3))
      have hne := empty_f b
      rw [if_neg hne] at kA
      have pl : (played m a).length ≤ 40 := by
        unfold played
        rw [List.length_map]
        exact Nat.le_trans (List.length_filter_le _ _) W.ev40
      repeat wtm_at "lwst"
      refine st_len (SqL.of (e3 _ _ h2)) ?_
      have al : acc.length = (played m a).length := ha.len
      rw [al]
      repeat wtm_at "lwst"
      refine new_l (by simp) fun p0 H4 h0n e4 h0 => ?_
      repeat wtm_at "lwst"
      refine ⟨_, _, rfl, (hf.up e3).up e4, ps_played W, mean_len hne, by omega, fun y H5 e5 hy => ?_⟩
      repeat wtm_at "lwst"
      refine new_l (by simp) fun p1 H6 h1n e6 h1 => ?_
      repeat wtm_at "lwst"
      refine ⟨_, [_], rfl, fs_one h1 (hy.up e6), by simp, fun p2 H7 h2n e7 h7 => ?_⟩
      repeat wtm_at "lwst"
      exact cat_frs (z := [(((played m a).length : Nat) : Int)]) (by simp) (by simp) (e7 _ _ (e6 _ _ (e5 _ _ h0))) h7 (kA.go (((((e2.trans e3).trans e4).trans e5).trans e6).trans e7))
def sp_variance (K : PySem.W.Frag) (C : Addr) : Sp := Deed K C 14
abbrev s_variance : Stmt := top 120
theorem sc_variance : FnScope ["study", "numbers", "row", "policy", "kind", "limit", "code"] ["study", "numbers", "row"] (defScope s_variance) := ⟨rfl, rfl, rfl, by decide +kernel, rfl, by decide +kernel, by decide +kernel⟩
theorem ok_variance (T : Tx K mg az an aw d1 d2 d3 C) (h : Has K mg "variance" s_variance ["study", "numbers", "row"]) (O_code_of : Ok P w K mg base "code_of" 3 ["study", "policies", "kind", "limit", "least_events"] (sp_code_of K C)) (O_numbers_of : Ok P w K mg base "numbers_of" 1 ["quotients"] (sp_numbers_of K C)) (O_variance_of_mean : Ok P w K mg base "variance_of_mean" 6 ["values"] (sp_variance_of_mean K C)) (O_terms : Ok P w K mg base "terms" 7 ["study", "policy", "kind", "limit"] (sp_terms K C)) :
    Ok P w K mg base "variance" 8 ["study", "numbers", "row"] (sp_variance K C) := by
  refine ok_of h sc_variance (fun vs H Q E h => ?_) (fun f cdv A outer s H vs Q E hr h => ⟨_, (pss_cons (ps_asg (pv 1) (pg_unlK (K := K) (n := 3) rfl rfl (pgs_cons (pg_name (i := 3) sc_variance.nd rfl (Or.inl rfl)) (pgs_cons (pg_name (i := 4) sc_variance.nd rfl (Or.inl rfl)) (pgs_cons (pg_name (i := 5) sc_variance.nd rfl (Or.inl rfl)) pgs_nil)))))
      (pss_cons (ps_set (i := 6) sc_variance.nd rfl (Or.inl rfl) (pe_go O_code_of (hr.mono (by decide)) (by rfl) (pa_cons (pv 0) (pa_cons (pe_lst (pa_cons (pv 3) pa_nil)) (pa_cons (pv 4) (pa_cons (pv 5) (pa_cons pe_int pa_nil)))))))
      (pss_cons (ps_if (pt_cmpR op_ne (pv 6) (pe_globI (by rfl) T.m_FINE) (nomark _)) (pss_one (ps_ret (pe_lst (pa_cons (pv 6) pa_nil)))) pss_nil)
      (pss_one (ps_ret (pe_op op_cat (pe_lst (pa_cons pe_int pa_nil)) (pe_go O_numbers_of (hr.mono (by decide)) (by rfl) (pa_cons (pe_lst (pa_cons (pe_go O_variance_of_mean (hr.mono (by decide)) (by rfl) (pa_cons (pe_go O_terms (hr.mono (by decide)) (by rfl) (pa_cons (pv 0) (pa_cons (pv 3) (pa_cons (pv 4) (pa_cons (pv 5) pa_nil))))) pa_nil)) pa_nil)) pa_nil)))))))), ?_⟩)
  · first | (obtain ⟨_, rfl, _⟩ := h; rfl) | (obtain ⟨_, _, rfl, _⟩ := h; rfl) | (obtain ⟨_, _, _, rfl, _⟩ := h; rfl) | (obtain ⟨_, _, _, _, rfl, _⟩ := h; rfl) | (obtain ⟨_, _, _, _, _, rfl, _⟩ := h; rfl) | (obtain ⟨_, _, _, _, _, _, rfl, _⟩ := h; rfl) | (obtain ⟨_, _, _, _, _, _, _, rfl, _⟩ := h; rfl) | (obtain ⟨_, _, _, _, _, _, _, _, rfl, _⟩ := h; rfl) | (obtain ⟨_, _, _, _, _, _, _, _, _, rfl, _⟩ := h; rfl) | (obtain ⟨_, _, _, _, _, _, _, _, _, _, rfl, _⟩ := h; rfl) | (obtain ⟨_, _, _, _, _, _, _, _, _, _, _, rfl, _⟩ := h; rfl) | (obtain ⟨_, _, _, _, _, _, _, _, _, _, _, _, rfl, _⟩ := h; rfl) | (obtain ⟨_, _, _, _, _, _, _, _, _, _, _, _, _, rfl, _⟩ := h; rfl)

  · obtain ⟨L, m, nv, rv, xs, row, rfl, S, W, ⟨p, rfl, hp⟩, hrow, ok, k⟩ := h
    obtain ⟨a, b, c, rfl⟩ := len3 ok.len
    have hp' : SqL K H p [.int (a : Int), .int (b : Int), .int (c : Int)] := hp
    have kA : RetA H Q (oVar m a b c) := deed_read S W k rfl
    unfold oVar at kA
    repeat wtm_at "lwst"
    refine st_gunl hp' rfl ?_
    repeat wtm_at "lwst"
    refine new_l (by simp) fun pl H1 hln e1 hl => ?_
    repeat wtm_at "lwst"
    refine ⟨L, m, _, [a], b, c, 2, rfl, S.up e1, ⟨pl, rfl, SqL.of hl⟩, ?_⟩
    repeat wtm_at "lwst"
    refine cond_code (fun cz => ?_) (fun cz => ?_)
    · rw [if_neg cz] at kA
      repeat wtm_at "lwst"
      exact ret_one (kA.go e1)
    rw [if_pos cz] at kA
    obtain ⟨f1, f2, f3, f4⟩ := code_fine cz
    have ha := f1 a (by simp)
    repeat wtm_at "lwst"
    refine new_l (by simp) fun p0 H2 h0n e2 h0 => ?_
    repeat wtm_at "lwst"
    refine ⟨L, m, a, b, c, rfl, (S.up e1).up e2, W, ha, f3, fun v H3 e3 hv => ?_⟩
    repeat wtm_at "lwst"
    have tl : (terms m a b c).length = m.ev.length := List.length_map _
    have := W.ev40
    refine ⟨v, _, rfl, hv, vs_terms W ha f3 f4, by omega, by omega, fun y H4 e4 hy => ?_⟩
    repeat wtm_at "lwst"
    refine new_l (by simp) fun p1 H5 h1n e5 h1 => ?_
    repeat wtm_at "lwst"
    refine ⟨_, [_], rfl, fs_one h1 (hy.up e5), by simp, fun p2 H6 h2n e6 h2 => ?_⟩
    repeat wtm_at "lwst"
    exact cat_frs (z := [0]) (by simp) (by simp) (e6 _ _ (e5 _ _ (e4 _ _ (e3 _ _ h0)))) h2 (kA.go (((((e1.trans e2).trans e3).trans e4).trans e5).trans e6))
def sp_interval (K : PySem.W.Frag) (C : Addr) : Sp := Deed K C 15
abbrev s_interval : Stmt := top 121
theorem sc_interval : FnScope ["study", "numbers", "row", "policy", "kind", "limit", "factor", "code", "found"] ["study", "numbers", "row"] (defScope s_interval) := ⟨rfl, rfl, rfl, by decide +kernel, rfl, by decide +kernel, by decide +kernel⟩
theorem ok_interval (T : Tx K mg az an aw d1 d2 d3 C) (h : Has K mg "interval" s_interval ["study", "numbers", "row"]) (O_code_of : Ok P w K mg base "code_of" 3 ["study", "policies", "kind", "limit", "least_events"] (sp_code_of K C)) (O_terms : Ok P w K mg base "terms" 7 ["study", "policy", "kind", "limit"] (sp_terms K C)) (O_is_between : Ok P w K mg base "is_between" 1 ["number", "least", "most"] (sp_is_between K C)) (O_numbers_of : Ok P w K mg base "numbers_of" 1 ["quotients"] (sp_numbers_of K C)) (O_mean : Ok P w K mg base "mean" 5 ["quotients"] (sp_mean K C)) (O_times : Ok P w K mg base "times" 3 ["one", "other"] (sp_times K C)) (O_whole : Ok P w K mg base "whole" 1 ["number"] (sp_whole K C)) (O_variance_of_mean : Ok P w K mg base "variance_of_mean" 6 ["values"] (sp_variance_of_mean K C)) :
    Ok P w K mg base "interval" 8 ["study", "numbers", "row"] (sp_interval K C) := by
  refine ok_of h sc_interval (fun vs H Q E h => ?_) (fun f cdv A outer s H vs Q E hr h => ⟨_, (pss_cons (ps_asg (pv 1) (pg_unlK (K := K) (n := 4) rfl rfl (pgs_cons (pg_name (i := 3) sc_interval.nd rfl (Or.inl rfl)) (pgs_cons (pg_name (i := 4) sc_interval.nd rfl (Or.inl rfl)) (pgs_cons (pg_name (i := 5) sc_interval.nd rfl (Or.inl rfl)) (pgs_cons (pg_name (i := 6) sc_interval.nd rfl (Or.inl rfl)) pgs_nil))))))
      (pss_cons (ps_if (pt_not (pt_val (pe_go O_is_between (hr.mono (by decide)) (by rfl) (pa_cons (pv 6) (pa_cons pe_int (pa_cons (pe_globI (by rfl) T.m_MOST_FACTOR) pa_nil)))))) (pss_one (ps_ret (pe_lst (pa_cons (pe_globI (by rfl) T.m_OUTSIDE) pa_nil)))) pss_nil)
      (pss_cons (ps_set (i := 7) sc_interval.nd rfl (Or.inl rfl) (pe_go O_code_of (hr.mono (by decide)) (by rfl) (pa_cons (pv 0) (pa_cons (pe_lst (pa_cons (pv 3) pa_nil)) (pa_cons (pv 4) (pa_cons (pv 5) (pa_cons pe_int pa_nil)))))))
      (pss_cons (ps_if (pt_cmpR op_ne (pv 7) (pe_globI (by rfl) T.m_FINE) (nomark _)) (pss_one (ps_ret (pe_lst (pa_cons (pv 7) pa_nil)))) pss_nil)
      (pss_cons (ps_set (i := 8) sc_interval.nd rfl (Or.inl rfl) (pe_go O_terms (hr.mono (by decide)) (by rfl) (pa_cons (pv 0) (pa_cons (pv 3) (pa_cons (pv 4) (pa_cons (pv 5) pa_nil))))))
      (pss_one (ps_ret (pe_op op_cat (pe_lst (pa_cons pe_int pa_nil)) (pe_go O_numbers_of (hr.mono (by decide)) (by rfl) (pa_cons (pe_lst (pa_cons (pe_go O_mean (hr.mono (by decide)) (by rfl) (pa_cons (pv 8) pa_nil)) (pa_cons (pe_go O_times (hr.mono (by decide)) (by rfl) (pa_cons (pe_go O_whole (hr.mono (by decide)) (by rfl) (pa_cons (pv 6) pa_nil)) (pa_cons (pe_go O_variance_of_mean (hr.mono (by decide)) (by rfl) (pa_cons (pv 8) pa_nil)) pa_nil))) pa_nil))) pa_nil)))))))))), ?_⟩)
  · first | (obtain ⟨_, rfl, _⟩ := h; rfl) | (obtain ⟨_, _, rfl, _⟩ := h; rfl) | (obtain ⟨_, _, _, rfl, _⟩ := h; rfl) | (obtain ⟨_, _, _, _, rfl, _⟩ := h; rfl) | (obtain ⟨_, _, _, _, _, rfl, _⟩ := h; rfl) | (obtain ⟨_, _, _, _, _, _, rfl, _⟩ := h; rfl) | (obtain ⟨_, _, _, _, _, _, _, rfl, _⟩ := h; rfl) | (obtain ⟨_, _, _, _, _, _, _, _, rfl, _⟩ := h; rfl) | (obtain ⟨_, _, _, _, _, _, _, _, _, rfl, _⟩ := h; rfl) | (obtain ⟨_, _, _, _, _, _, _, _, _, _, rfl, _⟩ := h; rfl) | (obtain ⟨_, _, _, _, _, _, _, _, _, _, _, rfl, _⟩ := h; rfl) | (obtain ⟨_, _, _, _, _, _, _, _, _, _, _, _, rfl, _⟩ := h; rfl) | (obtain ⟨_, _, _, _, _, _, _, _, _, _, _, _, _, rfl, _⟩ := h; rfl)

  · obtain ⟨L, m, nv, rv, xs, row, rfl, S, W, ⟨p, rfl, hp⟩, hrow, ok, k⟩ := h
    obtain ⟨a, b, c, d, rfl⟩ := len4 ok.len
    have hp' : SqL K H p [.int (a : Int), .int (b : Int), .int (c : Int), .int (d : Int)] := hp
    have kA : RetA H Q (oInt m a b c d) := deed_read S W k rfl
    unfold oInt at kA
    repeat wtm_at "lwst"
    refine st_gunl hp' rfl ?_
    repeat wtm_at "lwst"
    refine ⟨_, _, _, rfl, ?_⟩
    rw [show (decide ((1 : Int) ≤ (d : Int)) && decide ((d : Int) ≤ 10000)) = (decide (1 ≤ d) && decide (d ≤ 10000)) by rw [Bool.eq_iff_iff]; simp; omega]
    repeat wtm_at "lwst"
    refine cond_2 (fun c1 => ?_) (fun c1 => ?_)
    · rw [Bool.not_eq_true'] at c1
      rw [c1, if_neg (by simp)] at kA
      repeat wtm_at "lwst"
      exact ret_one kA
    rw [Bool.not_eq_false'] at c1
    rw [if_pos c1] at kA
    have hd : d ≤ 10000 := by simp at c1; omega
    repeat wtm_at "lwst"
    refine new_l (by simp) fun pl H1 hln e1 hl => ?_
    repeat wtm_at "lwst"
    refine ⟨L, m, _, [a], b, c, 2, rfl, S.up e1, ⟨pl, rfl, SqL.of hl⟩, ?_⟩
    repeat wtm_at "lwst"
    refine cond_code (fun cz => ?_) (fun cz => ?_)
    · rw [if_neg cz] at kA
      repeat wtm_at "lwst"
      exact ret_one (kA.go e1)
    rw [if_pos cz] at kA
    obtain ⟨f1, f2, f3, f4⟩ := code_fine cz
    have ha := f1 a (by simp)
    repeat wtm_at "lwst"
    refine ⟨L, m, a, b, c, rfl, S.up e1, W, ha, f3, fun v H2 e2 hv => ?_⟩
    repeat wtm_at "lwst"
    have tl : (terms m a b c).length = m.ev.length := List.length_map _
    have := W.ev40
    have vs := @vs_terms m a b c W ha f3 f4
    refine new_l (by simp) fun p0 H3 h0n e3 h0 => ?_
    repeat wtm_at "lwst"
    refine ⟨v, _, rfl, hv.up e3, vs.1, by omega, by omega, fun y H4 e4 hy => ?_⟩
    repeat wtm_at "lwst"
    refine ⟨_, rfl, fun z H5 e5 hz => ?_⟩
    repeat wtm_at "lwst"
    refine ⟨v, _, rfl, ((hv.up e3).up e4).up e5, vs, by omega, by omega, fun w H6 e6 hw => ?_⟩
    repeat wtm_at "lwst"
    refine ⟨z, w, ((d : Nat) : Rw), _, rfl, hz.up e6, hw, bd_nat (by omega), vs.2.2.2.2, fun t H7 e7 ht => ?_⟩
    repeat wtm_at "lwst"
    refine new_l (by simp) fun p1 H8 h1n e8 h1 => ?_
    repeat wtm_at "lwst"
    refine ⟨_, [_, _], rfl, fs_two h1 ((((hy.up e5).up e6).up e7).up e8) (ht.up e8), by simp, fun p2 H9 h2n e9 h2 => ?_⟩
    repeat wtm_at "lwst"
    have e39 := ((((e4.trans e5).trans e6).trans e7).trans e8).trans e9
    exact cat_frs (z := [0]) (by simp) (by simp) (e39 _ _ h0) h2 (kA.go (((e1.trans e2).trans e3).trans e39))
end
end Lw

namespace Lw
open PySem PySem.Spec PyProof.Rows L2
local macro_rules | `(tactic| wtm_at "lwsame") => `(tactic| first
  | assumption | exact Same.refl _ | (refine Same.trans (by assumption) ?_; wtm_at "lwsame"))
local macro_rules | `(tactic| wtm_at "lwup") => `(tactic| first
  | assumption
  | ((with_reducible show SqT _ _ _ _); first | (refine sqT_up ?_ (by assumption); wtm_at "lwsame") | (refine KT.sq ?_ _; assumption) | (refine SqT.of ?_; wtm_at "lwup"))
  | ((with_reducible show SqL _ _ _ _); first | (refine sqL_up ?_ (by assumption); wtm_at "lwsame") | (refine SqL.of ?_; wtm_at "lwup"))
  | ((with_reducible show _ = some _); refine (show Same _ _ by wtm_at "lwsame") _ _ (by assumption))
  | ((with_reducible show Fq _ _ _ _); refine Fq.up ?_ (by assumption); wtm_at "lwsame")
  | ((with_reducible show Fs _ _ _ _); refine Fs.up ?_ (by assumption); wtm_at "lwsame")
  | ((with_reducible show Is _ _ _ _); refine Is.up ?_ (by assumption); wtm_at "lwsame")
  | ((with_reducible show Ns _ _ _ _); refine Ns.up ?_ (by assumption); wtm_at "lwsame")
  | ((with_reducible show Eq4 _ _ _ _); refine Eq4.up ?_ (by assumption); wtm_at "lwsame")
  | ((with_reducible show Evs _ _ _ _); refine Evs.up ?_ (by assumption); wtm_at "lwsame"))
local macro_rules | `(tactic| wtm_at "lwst2") => `(tactic| first
  | (with_reducible refine st_drop ?_)
  | (with_reducible refine st_par ?_)
  | (with_reducible refine st_par2 ?_)
  | (with_reducible refine st_un ?_)
  | (with_reducible refine st_rU ?_)
  | (with_reducible refine st_B ?_)
  | (with_reducible refine st_not ?_)
  | (with_reducible refine st_and ?_)
  | (with_reducible refine st_or ?_)
  | (with_reducible refine st_andV ?_)
  | (with_reducible refine st_orV ?_)
  | (with_reducible refine st_isB2 ?_)
  | (with_reducible refine st_ifE ?_)
  | (with_reducible refine st_yes ?_)
  | (with_reducible refine st_forL ?_)
  | (with_reducible refine st_forR ?_)
  | (with_reducible refine st_lcL ?_)
  | (with_reducible refine st_lcR ?_)
  | (with_reducible refine st_lcZ ?_)
  | (with_reducible refine st_bm ?_)
  | (with_reducible refine st_sfld ?_)
  | (with_reducible refine st_gsub ?_)
  | (with_reducible refine st_meth ?_)
  | (with_reducible refine st_sl ?_)
  | (with_reducible refine st_nopart ?_)
  | (with_reducible refine st_part ?_)
  | (with_reducible refine st_isI ?_)
  | (with_reducible refine st_rev ?_)
  | (with_reducible refine st_ckw ?_)
  | (with_reducible refine st_abs ?_)
  | ((with_reducible refine st_eq ?hh ?_); (case hh => exact rfl))
  | ((with_reducible refine st_ne ?hh ?_); (case hh => exact rfl))
  | ((with_reducible refine st_ixT (v := ?vv) (xs := ?xx) ?hh ?hi ?_); (case hh => wtm_at "lwup"); (case hi => exact rfl))
  | ((with_reducible refine st_gtup (xs := ?xx) ?hh ?hi ?_); (case hh => wtm_at "lwup"); (case hi => exact rfl)))
local macro_rules | `(tactic| wtm_at "lwst") => `(tactic| first
  | (with_reducible refine st_cons ?_)
  | ((with_reducible refine st_var (v := ?vv) ?hh ?_); (case hh => exact rfl))
  | (with_reducible refine st_nil ?_)
  | (with_reducible refine st_call ?_)
  | (with_reducible refine st_gname ?_)
  | (with_reducible refine st_c ?_)
  | (with_reducible refine st_seq ?_)
  | (with_reducible refine st_op ?_)
  | (with_reducible refine st_ret ?_)
  | (with_reducible refine st_lst ?_)
  | (with_reducible refine st_gcons ?_)
  | (with_reducible refine st_asg ?_)
  | (with_reducible refine st_isB ?_)
  | (with_reducible refine st_ifS ?_)
  | (with_reducible refine st_nx0 ?_)
  | (with_reducible refine st_test ?_)
  | (with_reducible refine st_fld ?_)
  | (with_reducible refine st_nx ?_)
  | (with_reducible refine st_rI0 ?_)
  | (with_reducible refine st_callB ?_)
  | (with_reducible refine st_gnil ?_)
  | (with_reducible refine st_tup ?_)
  | wtm_at "lwst2")

section
variable {P : Program} {w : World} {K : PySem.W.Frag} {mg : Str → Option Value} {base : Heap} {az an aw d1 d2 d3 C : Addr}

theorem map_some_id {α : Type} (l : List α) : (l.map some).filterMap id = l := by
  induction l with
  | nil => rfl
  | cons x r ih =>
    rw [List.map_cons]
    show x :: (r.map some).filterMap id = _
    rw [ih]
theorem zip_at {α β : Type} {l : List α} {m : List β} {i : Nat} {a : α} {b : β} (h1 : l[i]? = some a) (h2 : m[i]? = some b) : (l.zip m)[i]? = some (a, b) := by
  rw [List.getElem?_zip_eq_some]
  exact ⟨h1, h2⟩
def sp_compare (K : PySem.W.Frag) (C : Addr) : Sp := Deed K C 16
abbrev s_compare : Stmt := top 122
theorem sc_compare : FnScope ["study", "numbers", "row", "first", "second", "kind", "limit", "code", "ones", "others", "found", "one", "other"] ["study", "numbers", "row"] (defScope s_compare) := ⟨rfl, rfl, rfl, by decide +kernel, rfl, by decide +kernel, by decide +kernel⟩
theorem ok_compare (T : Tx K mg az an aw d1 d2 d3 C) (h : Has K mg "compare" s_compare ["study", "numbers", "row"]) (O_code_of : Ok P w K mg base "code_of" 3 ["study", "policies", "kind", "limit", "least_events"] (sp_code_of K C)) (O_terms : Ok P w K mg base "terms" 7 ["study", "policy", "kind", "limit"] (sp_terms K C)) (O_minus : Ok P w K mg base "minus" 3 ["one", "other"] (sp_minus K C)) (O_numbers_of : Ok P w K mg base "numbers_of" 1 ["quotients"] (sp_numbers_of K C)) (O_mean : Ok P w K mg base "mean" 5 ["quotients"] (sp_mean K C)) (O_variance_of_mean : Ok P w K mg base "variance_of_mean" 6 ["values"] (sp_variance_of_mean K C)) :
    Ok P w K mg base "compare" 8 ["study", "numbers", "row"] (sp_compare K C) := by
  refine ok_of h sc_compare (fun vs H Q E h => ?_) (fun f cdv A outer s H vs Q E hr h => ⟨_, (pss_cons (ps_asg (pv 1) (pg_unlK (K := K) (n := 4) rfl rfl (pgs_cons (pg_name (i := 3) sc_compare.nd rfl (Or.inl rfl)) (pgs_cons (pg_name (i := 4) sc_compare.nd rfl (Or.inl rfl)) (pgs_cons (pg_name (i := 5) sc_compare.nd rfl (Or.inl rfl)) (pgs_cons (pg_name (i := 6) sc_compare.nd rfl (Or.inl rfl)) pgs_nil))))))
      (pss_cons (ps_set (i := 7) sc_compare.nd rfl (Or.inl rfl) (pe_go O_code_of (hr.mono (by decide)) (by rfl) (pa_cons (pv 0) (pa_cons (pe_lst (pa_cons (pv 3) (pa_cons (pv 4) pa_nil))) (pa_cons (pv 5) (pa_cons (pv 6) (pa_cons pe_int pa_nil)))))))
      (pss_cons (ps_if (pt_cmpR op_ne (pv 7) (pe_globI (by rfl) T.m_FINE) (nomark _)) (pss_one (ps_ret (pe_lst (pa_cons (pv 7) pa_nil)))) pss_nil)
      (pss_cons (ps_par (i := 8) (j := 9) (by rfl) sc_compare.nd rfl rfl (by decide) rfl rfl (pa_cons (pe_go O_terms (hr.mono (by decide)) (by rfl) (pa_cons (pv 0) (pa_cons (pv 3) (pa_cons (pv 5) (pa_cons (pv 6) pa_nil))))) (pa_cons (pe_go O_terms (hr.mono (by decide)) (by rfl) (pa_cons (pv 0) (pa_cons (pv 4) (pa_cons (pv 5) (pa_cons (pv 6) pa_nil))))) pa_nil)) (by rfl))
      (pss_cons (ps_setLc (i := 10) (own := [("one", 11), ("other", 12)]) (by rfl) sc_compare.nd rfl rfl (sw_true rfl rfl rfl (by decide +kernel)) (pi_zip (by rfl) T.b_zip (pa_cons (pv 8) (pa_cons (pv 9) pa_nil))) (blkOk_by (own := [("one", 11), ("other", 12)]) (N := ["study", "numbers", "row", "first", "second", "kind", "limit", "code", "ones", "others", "found", "one", "other"]) (sc := defScope s_compare) (by decide +kernel)) (fun _ _ _ _ _ => (pg_tupK (K := K) (n := 2) rfl rfl (pgs_cons (pg_name (i := 11) sc_compare.nd rfl (Or.inl rfl)) (pgs_cons (pg_name (i := 12) sc_compare.nd rfl (Or.inl rfl)) pgs_nil)))) (fun _ _ _ _ _ => pts_nil) (fun _ _ _ _ _ => (pe_go O_minus (hr.mono (by decide)) (by rfl) (pa_cons (pv 11) (pa_cons (pv 12) pa_nil)))))
      (pss_one (ps_ret (pe_op op_cat (pe_lst (pa_cons pe_int pa_nil)) (pe_go O_numbers_of (hr.mono (by decide)) (by rfl) (pa_cons (pe_lst (pa_cons (pe_go O_mean (hr.mono (by decide)) (by rfl) (pa_cons (pv 10) pa_nil)) (pa_cons (pe_go O_variance_of_mean (hr.mono (by decide)) (by rfl) (pa_cons (pv 10) pa_nil)) pa_nil))) pa_nil)))))))))), ?_⟩)
  · first | (obtain ⟨_, rfl, _⟩ := h; rfl) | (obtain ⟨_, _, rfl, _⟩ := h; rfl) | (obtain ⟨_, _, _, rfl, _⟩ := h; rfl) | (obtain ⟨_, _, _, _, rfl, _⟩ := h; rfl) | (obtain ⟨_, _, _, _, _, rfl, _⟩ := h; rfl) | (obtain ⟨_, _, _, _, _, _, rfl, _⟩ := h; rfl) | (obtain ⟨_, _, _, _, _, _, _, rfl, _⟩ := h; rfl) | (obtain ⟨_, _, _, _, _, _, _, _, rfl, _⟩ := h; rfl) | (obtain ⟨_, _, _, _, _, _, _, _, _, rfl, _⟩ := h; rfl) | (obtain ⟨_, _, _, _, _, _, _, _, _, _, rfl, _⟩ := h; rfl) | (obtain ⟨_, _, _, _, _, _, _, _, _, _, _, rfl, _⟩ := h; rfl) | (obtain ⟨_, _, _, _, _, _, _, _, _, _, _, _, rfl, _⟩ := h; rfl) | (obtain ⟨_, _, _, _, _, _, _, _, _, _, _, _, _, rfl, _⟩ := h; rfl)

  · obtain ⟨L, m, nv, rv, xs, row, rfl, S, W, ⟨p, rfl, hp⟩, hrow, ok, k⟩ := h
    obtain ⟨a, a2, b, c, rfl⟩ := len4 ok.len
    have hp' : SqL K H p [.int (a : Int), .int (a2 : Int), .int (b : Int), .int (c : Int)] := hp
    have kA : RetA H Q (oComp m a a2 b c) := deed_read S W k rfl
    unfold oComp at kA
    repeat wtm_at "lwst"
    refine st_gunl hp' rfl ?_
    repeat wtm_at "lwst"
    refine new_l (by simp) fun pl H1 hln e1 hl => ?_
    repeat wtm_at "lwst"
    refine ⟨L, m, _, [a, a2], b, c, 2, rfl, S.up e1, ⟨pl, rfl, SqL.of hl⟩, ?_⟩
    repeat wtm_at "lwst"
    refine cond_code (fun cz => ?_) (fun cz => ?_)
    · rw [if_neg cz] at kA
      repeat wtm_at "lwst"
      exact ret_one (kA.go e1)
    rw [if_pos cz] at kA
    obtain ⟨f1, f2, f3, f4⟩ := code_fine cz
    have ha := f1 a (by simp)
    have ha2 := f1 a2 (by simp)
    have := W.ev40
    have vs := @vs_diffs m a b c W a2 ha ha2 f3 f4
    have l1 : (terms m a b c).length = m.ev.length := List.length_map _
    have l2 : (terms m a2 b c).length = m.ev.length := List.length_map _
    have l3 : (diffs (terms m a b c) (terms m a2 b c)).length = m.ev.length := by
      unfold diffs
      rw [List.length_map, List.length_zip, l1, l2, Nat.min_self]
    repeat wtm_at "lwst"
    refine ⟨L, m, a, b, c, rfl, S.up e1, W, ha, f3, fun v H2 e2 hv => ?_⟩
    repeat wtm_at "lwst"
    refine ⟨L, m, a2, b, c, rfl, (S.up e1).up e2, W, ha2, f3, fun u H3 e3 hu => ?_⟩
    obtain ⟨vp, vx, rfl, hvp, hvx⟩ := hv.up e3
    obtain ⟨up, ux, rfl, hup, hux⟩ := hu
    have xl : vx.length = m.ev.length := by rw [hvx.len, l1]
    have ul : ux.length = m.ev.length := by rw [hux.len, l2]
    repeat wtm_at "lwst"
    refine go_lcZt (R := RF K) (zs := (diffs (terms m a b c) (terms m a2 b c)).map some) (by omega) (by rw [List.length_map]; omega) (by omega) (Same.refl H3) hvp hup RF.up RF.mu (fun D i x y tp z H4 hx hy hz hD e htp hacc Q' N' kq kn => ?_) (fun fp H4 ws hfn e4 h4 a4 => ?_)
    · obtain ⟨r, hr1, hq1⟩ := hvx.get hx
      obtain ⟨s1, hs1, hq2⟩ := hux.get hy
      have hz2 : (diffs (terms m a b c) (terms m a2 b c))[i]? = some (r - s1) := by
        unfold diffs
        rw [List.getElem?_map, zip_at hr1 hs1]
        rfl
      have ez := map_at hz hz2
      subst ez
      repeat wtm_at "lwst"
      refine ⟨rfl, ?_⟩
      repeat wtm_at "lwst"
      refine cond_t rfl ?_
      repeat wtm_at "lwst"
      have ta := ps_terms (kind := b) W ha f3
      have tb := ps_terms (kind := b) W ha2 f3
      exact ⟨x, y, r, s1, rfl, hq1.up e, hq2.up e, ta.1 r (mem_ix hr1), tb.1 s1 (mem_ix hs1), fun w H5 e5 hw => kq w H5 _ rfl e5 hw⟩
    · rw [map_some_id] at a4
      have hf := fs_of h4 a4
      repeat wtm_at "lwst"
      refine new_l (by simp) fun p0 H5 h0n e5 h0 => ?_
      repeat wtm_at "lwst"
      refine ⟨_, _, rfl, hf.up e5, vs.1, by omega, by omega, fun y H6 e6 hy => ?_⟩
      repeat wtm_at "lwst"
      refine ⟨_, _, rfl, (hf.up e5).up e6, vs, by omega, by omega, fun w H7 e7 hw => ?_⟩
      repeat wtm_at "lwst"
      refine new_l (by simp) fun p1 H8 h1n e8 h1 => ?_
      repeat wtm_at "lwst"
      refine ⟨_, [_, _], rfl, fs_two h1 ((hy.up e7).up e8) (hw.up e8), by simp, fun p2 H9 h2n e9 h2 => ?_⟩
      repeat wtm_at "lwst"
      have e59 := ((e6.trans e7).trans e8).trans e9
      exact cat_frs (z := [0]) (by simp) (by simp) (e59 _ _ h0) h2 (kA.go (((((e1.trans e2).trans e3).trans e4).trans e5).trans e59))
theorem atCtx_len {m : M} (W : Wf m) {k kind limit c : Nat} : (atCtx m k kind limit c).length ≤ 40 := by
  unfold atCtx
  rw [List.length_map]
  exact Nat.le_trans (List.length_filter_le _ _) W.ev40
theorem ctxAns_len (m : M) (k kind limit c : Nat) : (ctxAns m k kind limit c).length = 3 := by
  unfold ctxAns
  rw [List.length_cons, frs_len]
  rfl
theorem ctx_len (m : M) (k kind limit i : Nat) : ((List.range i).flatMap (ctxAns m k kind limit)).length = 3 * i := by
  induction i with
  | zero => rfl
  | succ i ih =>
    rw [List.range_succ, List.flatMap_append, List.length_append, ih]
    simp only [List.flatMap_cons, List.flatMap_nil, List.append_nil, ctxAns_len]
    omega
def sp_by_context (K : PySem.W.Frag) (C : Addr) : Sp := Deed K C 17
abbrev s_by_context : Stmt := top 123
theorem sc_by_context : FnScope ["study", "numbers", "row", "policy", "kind", "limit", "code", "values", "answer", "context", "found", "value", "event"] ["study", "numbers", "row"] (defScope s_by_context) := ⟨rfl, rfl, rfl, by decide +kernel, rfl, by decide +kernel, by decide +kernel⟩
theorem ok_by_context (T : Tx K mg az an aw d1 d2 d3 C) (h : Has K mg "by_context" s_by_context ["study", "numbers", "row"]) (O_code_of : Ok P w K mg base "code_of" 3 ["study", "policies", "kind", "limit", "least_events"] (sp_code_of K C)) (O_terms : Ok P w K mg base "terms" 7 ["study", "policy", "kind", "limit"] (sp_terms K C)) (O_numbers_of : Ok P w K mg base "numbers_of" 1 ["quotients"] (sp_numbers_of K C)) (O_mean : Ok P w K mg base "mean" 5 ["quotients"] (sp_mean K C)) :
    Ok P w K mg base "by_context" 8 ["study", "numbers", "row"] (sp_by_context K C) := by
  refine ok_of h sc_by_context (fun vs H Q E h => ?_) (fun f cdv A outer s H vs Q E hr h => ⟨_, (pss_cons (ps_asg (pv 1) (pg_unlK (K := K) (n := 3) rfl rfl (pgs_cons (pg_name (i := 3) sc_by_context.nd rfl (Or.inl rfl)) (pgs_cons (pg_name (i := 4) sc_by_context.nd rfl (Or.inl rfl)) (pgs_cons (pg_name (i := 5) sc_by_context.nd rfl (Or.inl rfl)) pgs_nil)))))
      (pss_cons (ps_set (i := 6) sc_by_context.nd rfl (Or.inl rfl) (pe_go O_code_of (hr.mono (by decide)) (by rfl) (pa_cons (pv 0) (pa_cons (pe_lst (pa_cons (pv 3) pa_nil)) (pa_cons (pv 4) (pa_cons (pv 5) (pa_cons pe_int pa_nil)))))))
      (pss_cons (ps_if (pt_cmpR op_ne (pv 6) (pe_globI (by rfl) T.m_FINE) (nomark _)) (pss_one (ps_ret (pe_lst (pa_cons (pv 6) pa_nil)))) pss_nil)
      (pss_cons (ps_par (i := 7) (j := 8) (by rfl) sc_by_context.nd rfl rfl (by decide) rfl rfl (pa_cons (pe_go O_terms (hr.mono (by decide)) (by rfl) (pa_cons (pv 0) (pa_cons (pv 3) (pa_cons (pv 4) (pa_cons (pv 5) pa_nil))))) (pa_cons (pe_lst (pa_cons (pe_fldK (K := K) rfl (pv 0) rfl) pa_nil)) pa_nil)) (by rfl))
      (pss_cons (ps_for PassesOwn.never rfl (pi_range1 (by rfl) T.b_range (pa_cons (pe_fldK (K := K) rfl (pv 0) rfl) pa_nil)) (pg_name (i := 9) sc_by_context.nd rfl (Or.inr rfl)) (pss_cons (ps_setLc (i := 10) (own := [("value", 11), ("event", 12)]) (by rfl) sc_by_context.nd rfl rfl (sw_true rfl rfl rfl (by decide +kernel)) (pi_zip (by rfl) T.b_zip (pa_cons (pv 7) (pa_cons (pe_fldK (K := K) rfl (pv 0) rfl) pa_nil))) (blkOk_by (own := [("value", 11), ("event", 12)]) (N := ["study", "numbers", "row", "policy", "kind", "limit", "code", "values", "answer", "context", "found", "value", "event"]) (sc := defScope s_by_context) (by decide +kernel)) (fun _ _ _ _ _ => (pg_tupK (K := K) (n := 2) rfl rfl (pgs_cons (pg_name (i := 11) sc_by_context.nd rfl (Or.inl rfl)) (pgs_cons (pg_name (i := 12) sc_by_context.nd rfl (Or.inl rfl)) pgs_nil)))) (fun _ _ _ _ _ => (pts_one (pt_cmpR op_eq (pe_ix (ix_tupK (K := K) rfl) (pv 12) pe_int (fun _ _ => rfl)) (pv 9) (nomark _)))) (fun _ _ _ _ _ => (pv 11)))
      (pss_one (ps_set (i := 8) sc_by_context.nd rfl (Or.inl rfl) (pe_op op_cat (pe_op op_cat (pv 8) (pe_lst (pa_cons (pe_callB (cb_lenK (K := K) rfl) (by rfl) T.b_len PySem.boot_len (pa_cons (pv 10) pa_nil)) pa_nil))) (pe_go O_numbers_of (hr.mono (by decide)) (by rfl) (pa_cons (pe_lst (pa_cons (pe_ifExp (pt_cmpR (op_neD hr.units) (pv 10) (pe_lst pa_nil) (nomark _)) (pe_go O_mean (hr.mono (by decide)) (by rfl) (pa_cons (pv 10) pa_nil)) (pe_globR (by rfl) T.m_ZERO)) pa_nil)) pa_nil)))))))
      (pss_one (ps_ret (pv 8)))))))), ?_⟩)
  · first | (obtain ⟨_, rfl, _⟩ := h; rfl) | (obtain ⟨_, _, rfl, _⟩ := h; rfl) | (obtain ⟨_, _, _, rfl, _⟩ := h; rfl) | (obtain ⟨_, _, _, _, rfl, _⟩ := h; rfl) | (obtain ⟨_, _, _, _, _, rfl, _⟩ := h; rfl) | (obtain ⟨_, _, _, _, _, _, rfl, _⟩ := h; rfl) | (obtain ⟨_, _, _, _, _, _, _, rfl, _⟩ := h; rfl) | (obtain ⟨_, _, _, _, _, _, _, _, rfl, _⟩ := h; rfl) | (obtain ⟨_, _, _, _, _, _, _, _, _, rfl, _⟩ := h; rfl) | (obtain ⟨_, _, _, _, _, _, _, _, _, _, rfl, _⟩ := h; rfl) | (obtain ⟨_, _, _, _, _, _, _, _, _, _, _, rfl, _⟩ := h; rfl) | (obtain ⟨_, _, _, _, _, _, _, _, _, _, _, _, rfl, _⟩ := h; rfl) | (obtain ⟨_, _, _, _, _, _, _, _, _, _, _, _, _, rfl, _⟩ := h; rfl)

  · obtain ⟨L, m, nv, rv, xs, row, rfl, S, W, ⟨p, rfl, hp⟩, hrow, ok, k⟩ := h
    obtain ⟨a, b, c, rfl⟩ := len3 ok.len
    have hp' : SqL K H p [.int (a : Int), .int (b : Int), .int (c : Int)] := hp
    have kA : RetA H Q (oCtx m a b c) := deed_read S W k rfl
    unfold oCtx at kA
    repeat wtm_at "lwst"
    refine st_gunl hp' rfl ?_
    repeat wtm_at "lwst"
    refine new_l (by simp) fun pl H1 hln e1 hl => ?_
    repeat wtm_at "lwst"
    refine ⟨L, m, _, [a], b, c, 1, rfl, S.up e1, ⟨pl, rfl, SqL.of hl⟩, ?_⟩
    repeat wtm_at "lwst"
    refine cond_code (fun cz => ?_) (fun cz => ?_)
    · rw [if_neg cz] at kA
      repeat wtm_at "lwst"
      exact ret_one (kA.go e1)
    rw [if_pos cz] at kA
    obtain ⟨f1, f2, f3, f4⟩ := code_fine cz
    have ha := f1 a (by simp)
    have ev40 := W.ev40
    have nc6 := W.nc6
    have l1 : (terms m a b c).length = m.ev.length := List.length_map _
    repeat wtm_at "lwst"
    refine ⟨L, m, a, b, c, rfl, S.up e1, W, ha, f3, fun v H2 e2 hv => ?_⟩
    have S2 := (S.up e1).up e2
    obtain ⟨vp, vx, rfl, hvp, hvx⟩ := hv
    obtain ⟨ex, hex, hes⟩ := S2.evs
    have xl : vx.length = m.ev.length := by rw [hvx.len, l1]
    have el := hes.len
    repeat wtm_at "lwst"
    refine fl_contexts T S2 ?_
    repeat wtm_at "lwst"
    refine new_l (by simp) fun pa H3 han e3 hpa => ?_
    repeat wtm_at "lwst"
    refine fl_contexts T (S2.up e3) ?_
    repeat wtm_at "lwst"
    refine go_forR (H0 := H2) (n := m.nc) (by omega) e3 (fun i σ H4 => ∃ l o1 o2, H2 l = none ∧ H4 l = some (.lst ((((m.nc : Nat) : Int) :: (List.range i).flatMap (ctxAns m a b c)).map V.int)) ∧ σ = [some (.ref L.a), some (.ref p), some rv, some (.int (a : Int)), some (.int (b : Int)), some (.int (c : Int)), some (.int 0), some (.ref vp), some (.ref l), o1, o2, none, none]) ⟨pa, none, none, han, hpa, by rw [cz]; rfl⟩ ?_ ?_
    · rintro i σ H4 hi e4 ⟨l, o1, o2, hln2, h4, rfl⟩
      have S4 := S2.up e4
      repeat wtm_at "lwst"
      refine fl_events T S4 ?_
      repeat wtm_at "lwst"
      refine go_lcZt (R := RF K) (zs := m.ev.map fun e => if (e.c == i) = true then some (term m a b c e) else none) (by omega) (by rw [List.length_map]; omega) (by omega) (Same.refl H4) (sqL_up e4 hvp) (sqL_up e4 hex) RF.up RF.mu (fun D j x y tp z H5 hx hy hz hD e htp hacc Q' N' kq kn => ?_) (fun fp H5 ws hfn e5 h5 a5 => ?_)
      · obtain ⟨ev, hev, hq0⟩ := hes.get hy
        obtain ⟨r, hr1, hq1⟩ := hvx.get hx
        have er : r = term m a b c ev := map_at hr1 hev
        subst er
        have hq := (hq0.up e4).up e
        obtain rfl := map_at hz hev
        obtain ⟨ep, z, rfl, hep, hz4⟩ := id hq
        repeat wtm_at "lwst"
        refine ⟨rfl, ?_⟩
        repeat wtm_at "lwst"
        rw [dec_len]
        refine cond_2 (fun b1 => ?_) (fun b1 => ?_)
        · repeat wtm_at "lwst"
          exact kq x H5 _ (if_pos b1) (Same.refl _) ((hq1.up e4).up e)
        · exact kn _ (if_neg (by rw [b1]; simp)) (Same.refl _)
      · rw [filter_opt (fun e : Ev => e.c == i) (term m a b c) m.ev] at a5
        have hf : Fs K H5 (.ref fp) (atCtx m a b c i) := fs_of h5 a5
        have fl : ws.length = (atCtx m a b c i).length := a5.len
        have cl := @atCtx_len m W a b c i
        repeat wtm_at "lwst"
        refine st_len (SqL.of h5) ?_
        rw [fl]
        repeat wtm_at "lwst"
        refine new_l (by simp) fun p1 H6 h1n e6 h1 => ?_
        repeat wtm_at "lwst"
        refine st_cat (e6 _ _ (e5 _ _ h4)) h1 (by rw [List.length_map, List.length_cons, ctx_len]; simp; omega) fun p2 H7 h2n e7 h2 => ?_
        repeat wtm_at "lwst"
        refine new_l (by simp) fun p3 H8 h3n e8 h3 => ?_
        refine st_neNil (((hf.up e6).up e7).up e8) h3 ?_
        repeat wtm_at "lwst"
        have e58 := (e6.trans e7).trans e8
        have fin : ∀ (y : V) (H9 : Hp), Same H8 H9 → Fq K H9 y (mean0 (atCtx m a b c i)) → newL [y] H9 fun x H10 => sp_numbers_of K C [x] H10 (fun y2 H11 => rCat (.ref p2) y2 H11 (fun x H12 => (fun σ3 H3 => Same H2 H3 ∧ ∃ l o1 o2, H2 l = none ∧ H3 l = some (.lst ((((m.nc : Nat) : Int) :: (List.range (i + 1)).flatMap (ctxAns m a b c)).map V.int)) ∧ σ3 = [some (V.ref L.a), some (.ref p), some rv, some (.int (a : Int)), some (.int (b : Int)), some (.int (c : Int)), some (.int 0), some (.ref vp), some (.ref l), o1, o2, none, none]) [some (V.ref L.a), some (.ref p), some rv, some (.int (a : Int)), some (.int (b : Int)), some (.int (c : Int)), some (.int 0), some (.ref vp), some x, some (.int (i : Int)), some (.ref fp), none, none] H12)) E0 := fun y H9 e9 hy => by
          refine new_l (by simp) fun p4 H10 h4n e10 h4' => ?_
          refine ⟨_, [_], rfl, fs_one h4' (hy.up e10), by simp, fun p5 H11 h5n e11 h5' => ?_⟩
          have h2' := e11 _ _ (e10 _ _ (e9 _ _ (e8 _ _ h2)))
          refine st_cat h2' h5' (by rw [List.length_append, List.length_map, List.length_map, List.length_cons, ctx_len, frs_len]; simp; omega) fun p6 H12 h6n e12 h6 => ?_
          have e212 := (((((e4.trans e5).trans e58).trans e9).trans e10).trans e11)
          refine ⟨e212.trans e12, p6, some (.int (i : Int)), some (.ref fp), e212.free h6n, ?_, rfl⟩
          rw [h6, List.range_succ, List.flatMap_append]
          simp only [List.flatMap_cons, List.flatMap_nil, List.append_nil, ctxAns]
          simp
        refine cond_2 (fun b1 => ?_) (fun b1 => ?_)
        · have hne := empty_f (Bool.not_eq_true' _ ▸ b1)
          repeat wtm_at "lwst"
          refine ⟨_, _, rfl, ((hf.up e6).up e7).up e8, ps_atCtx W ha f3, mean_len hne, by omega, fun y H9 e9 hy => ?_⟩
          have hy' : Fq K H9 y (mean0 (atCtx m a b c i)) := by
            unfold mean0
            rw [if_neg hne]
            exact hy
          exact fin y H9 e9 hy'
        · have hem := empty_t (Bool.not_eq_false' _ ▸ b1)
          repeat wtm_at "lwst"
          have hy' : Fq K H8 (.ref az) (mean0 (atCtx m a b c i)) := by
            unfold mean0
            rw [if_pos hem]
            exact fq_zero T H8
          exact fin (.ref az) H8 (Same.refl _) hy'
    · rintro σ H4 e4 ⟨l, o1, o2, hln2, h4, rfl⟩
      repeat wtm_at "lwst"
      exact kA l H4 ((e1.trans e2).free hln2) ((e1.trans e2).trans e4) h4
def sp_greatest_weight (K : PySem.W.Frag) (C : Addr) : Sp := Deed K C 18
abbrev s_greatest_weight : Stmt := top 124
theorem sc_greatest_weight : FnScope ["study", "numbers", "row"] ["study", "numbers", "row"] (defScope s_greatest_weight) := ⟨rfl, rfl, rfl, by decide +kernel, rfl, by decide +kernel, by decide +kernel⟩
theorem ok_greatest_weight (T : Tx K mg az an aw d1 d2 d3 C) (h : Has K mg "greatest_weight" s_greatest_weight ["study", "numbers", "row"]) (O_is_policy : Ok P w K mg base "is_policy" 2 ["policy"] (sp_is_policy K C)) (O_numbers_of : Ok P w K mg base "numbers_of" 1 ["quotients"] (sp_numbers_of K C)) (O_greatest : Ok P w K mg base "greatest" 2 ["quotients"] (sp_greatest K C)) (O_importances : Ok P w K mg base "importances" 5 ["study", "policy"] (sp_importances K C)) :
    Ok P w K mg base "greatest_weight" 6 ["study", "numbers", "row"] (sp_greatest_weight K C) := by
  refine ok_of h sc_greatest_weight (fun vs H Q E h => ?_) (fun f cdv A outer s H vs Q E hr h => ⟨_, (pss_cons (ps_if (pt_not (pt_val (pe_go O_is_policy (hr.mono (by decide)) (by rfl) (pa_cons (pe_ix (ix_listK (K := K) rfl) (pv 1) pe_int (fun _ _ => rfl)) pa_nil)))) (pss_one (ps_ret (pe_lst (pa_cons (pe_globI (by rfl) T.m_NOT_THERE) pa_nil)))) pss_nil)
      (pss_cons (ps_if (pt_cmpR (op_eqD hr.units) (pe_fldK (K := K) rfl (pv 0) rfl) (pe_lst pa_nil) (nomark _)) (pss_one (ps_ret (pe_lst (pa_cons (pe_globI (by rfl) T.m_NOT_ENOUGH) pa_nil)))) pss_nil)
      (pss_one (ps_ret (pe_op op_cat (pe_lst (pa_cons pe_int pa_nil)) (pe_go O_numbers_of (hr.mono (by decide)) (by rfl) (pa_cons (pe_lst (pa_cons (pe_go O_greatest (hr.mono (by decide)) (by rfl) (pa_cons (pe_go O_importances (hr.mono (by decide)) (by rfl) (pa_cons (pv 0) (pa_cons (pe_ix (ix_listK (K := K) rfl) (pv 1) pe_int (fun _ _ => rfl)) pa_nil))) pa_nil)) pa_nil)) pa_nil))))))), ?_⟩)
  · first | (obtain ⟨_, rfl, _⟩ := h; rfl) | (obtain ⟨_, _, rfl, _⟩ := h; rfl) | (obtain ⟨_, _, _, rfl, _⟩ := h; rfl) | (obtain ⟨_, _, _, _, rfl, _⟩ := h; rfl) | (obtain ⟨_, _, _, _, _, rfl, _⟩ := h; rfl) | (obtain ⟨_, _, _, _, _, _, rfl, _⟩ := h; rfl) | (obtain ⟨_, _, _, _, _, _, _, rfl, _⟩ := h; rfl) | (obtain ⟨_, _, _, _, _, _, _, _, rfl, _⟩ := h; rfl) | (obtain ⟨_, _, _, _, _, _, _, _, _, rfl, _⟩ := h; rfl) | (obtain ⟨_, _, _, _, _, _, _, _, _, _, rfl, _⟩ := h; rfl) | (obtain ⟨_, _, _, _, _, _, _, _, _, _, _, rfl, _⟩ := h; rfl) | (obtain ⟨_, _, _, _, _, _, _, _, _, _, _, _, rfl, _⟩ := h; rfl) | (obtain ⟨_, _, _, _, _, _, _, _, _, _, _, _, _, rfl, _⟩ := h; rfl)

  · obtain ⟨L, m, nv, rv, xs, row, rfl, S, W, ⟨p, rfl, hp⟩, hrow, ok, k⟩ := h
    obtain ⟨a, rfl⟩ := len1 ok.len
    have hp' : SqL K H p [.int (a : Int)] := hp
    have kA : RetA H Q (oGreat m a) := deed_read S W k rfl
    unfold oGreat at kA
    repeat wtm_at "lwst"
    refine st_ixL hp' (atI_nat (j := 0) rfl) ?_
    repeat wtm_at "lwst"
    refine ⟨a, rfl, ?_⟩
    repeat wtm_at "lwst"
    refine cond_2 (fun c1 => ?_) (fun c1 => ?_)
    · rw [Bool.not_eq_true'] at c1
      rw [c1, if_neg (by simp)] at kA
      repeat wtm_at "lwst"
      exact ret_one kA
    rw [Bool.not_eq_false'] at c1
    rw [if_pos c1] at kA
    have ha := pol_lt c1
    repeat wtm_at "lwst"
    refine fl_events T S ?_
    repeat wtm_at "lwst"
    refine new_l (by simp) fun n1 H1 hn1 e1 h1 => ?_
    obtain ⟨ex, hex, hes⟩ := (S.up e1).evs
    refine st_eqNilE hex hes h1 ?_
    repeat wtm_at "lwst"
    refine cond_2 (fun b => ?_) (fun b => ?_)
    · rw [if_pos (List.isEmpty_iff.mp b)] at kA
      repeat wtm_at "lwst"
      exact ret_one (kA.go e1)
    have hne : m.ev ≠ [] := fun z => by
      rw [z] at b
      cases b
    rw [if_neg hne] at kA
    repeat wtm_at "lwst"
    refine new_l (by simp) fun p0 H2 h0n e2 h0 => ?_
    repeat wtm_at "lwst"
    refine st_ixL (sqL_up (e1.trans e2) hp') (atI_nat (j := 0) rfl) ?_
    repeat wtm_at "lwst"
    refine ⟨L, m, a, rfl, (S.up e1).up e2, W, ha, fun v H3 e3 hv => ?_⟩
    repeat wtm_at "lwst"
    refine ⟨v, _, rfl, hv, (ps_imps W ha).1, by unfold imps; rw [List.length_map]; exact List.length_pos_iff.mpr hne, fun y hy => ?_⟩
    repeat wtm_at "lwst"
    refine new_l (by simp) fun p1 H4 h1n e4 h1 => ?_
    repeat wtm_at "lwst"
    refine ⟨_, [_], rfl, fs_one h1 (hy.up e4), by simp, fun p2 H5 h2n e5 h2 => ?_⟩
    repeat wtm_at "lwst"
    exact cat_frs (z := [0]) (by simp) (by simp) (e5 _ _ (e4 _ _ (e3 _ _ h0))) h2 (kA.go ((((e1.trans e2).trans e3).trans e4).trans e5))
def sp_model_info (K : PySem.W.Frag) (C : Addr) : Sp := Deed K C 19
abbrev s_model_info : Stmt := top 125
theorem sc_model_info : FnScope ["study", "numbers", "row"] ["study", "numbers", "row"] (defScope s_model_info) := ⟨rfl, rfl, rfl, by decide +kernel, rfl, by decide +kernel, by decide +kernel⟩
theorem ok_model_info (T : Tx K mg az an aw d1 d2 d3 C) (h : Has K mg "model_info" s_model_info ["study", "numbers", "row"]) (O_numbers_of : Ok P w K mg base "numbers_of" 1 ["quotients"] (sp_numbers_of K C)) (O_has_context : OkM P w K mg base C "has_context" 1 ["self", "context"] (sp_has_context K C)) :
    Ok P w K mg base "model_info" 2 ["study", "numbers", "row"] (sp_model_info K C) := by
  refine ok_of h sc_model_info (fun vs H Q E h => ?_) (fun f cdv A outer s H vs Q E hr h => ⟨_, (pss_cons (ps_if (pt_not (pt_val (pe_goM (pv 0) T.cl O_has_context (hr.mono (by decide)) (pa_cons (pe_ix (ix_listK (K := K) rfl) (pv 1) pe_int (fun _ _ => rfl)) pa_nil)))) (pss_one (ps_ret (pe_lst (pa_cons (pe_globI (by rfl) T.m_NOT_THERE) pa_nil)))) pss_nil)
      (pss_one (ps_ret (pe_op op_cat (pe_lst (pa_cons (pe_fldK (K := K) rfl (pv 0) rfl) pa_nil)) (pe_go O_numbers_of (hr.mono (by decide)) (by rfl) (pa_cons (pe_ix (ix_listK (K := K) rfl) (pe_fldK (K := K) rfl (pv 0) rfl) (pe_ix (ix_listK (K := K) rfl) (pv 1) pe_int (fun _ _ => rfl)) (fun _ _ => rfl)) pa_nil)))))), ?_⟩)
  · first | (obtain ⟨_, rfl, _⟩ := h; rfl) | (obtain ⟨_, _, rfl, _⟩ := h; rfl) | (obtain ⟨_, _, _, rfl, _⟩ := h; rfl) | (obtain ⟨_, _, _, _, rfl, _⟩ := h; rfl) | (obtain ⟨_, _, _, _, _, rfl, _⟩ := h; rfl) | (obtain ⟨_, _, _, _, _, _, rfl, _⟩ := h; rfl) | (obtain ⟨_, _, _, _, _, _, _, rfl, _⟩ := h; rfl) | (obtain ⟨_, _, _, _, _, _, _, _, rfl, _⟩ := h; rfl) | (obtain ⟨_, _, _, _, _, _, _, _, _, rfl, _⟩ := h; rfl) | (obtain ⟨_, _, _, _, _, _, _, _, _, _, rfl, _⟩ := h; rfl) | (obtain ⟨_, _, _, _, _, _, _, _, _, _, _, rfl, _⟩ := h; rfl) | (obtain ⟨_, _, _, _, _, _, _, _, _, _, _, _, rfl, _⟩ := h; rfl) | (obtain ⟨_, _, _, _, _, _, _, _, _, _, _, _, _, rfl, _⟩ := h; rfl)

  · obtain ⟨L, m, nv, rv, xs, row, rfl, S, W, ⟨p, rfl, hp⟩, hrow, ok, k⟩ := h
    obtain ⟨c, rfl⟩ := len1 ok.len
    have hp' : SqL K H p [.int (c : Int)] := hp
    have kA : RetA H Q (oModelInfo m c) := deed_read S W k rfl
    unfold oModelInfo at kA
    repeat wtm_at "lwst"
    refine meth_go S (by decide +kernel) ?_
    repeat wtm_at "lwst"
    refine st_ixL hp' (atI_nat (j := 0) rfl) ?_
    repeat wtm_at "lwst"
    refine ⟨L, m, c, rfl, S, ?_⟩
    repeat wtm_at "lwst"
    refine cond_2 (fun c1 => ?_) (fun c1 => ?_)
    · rw [Bool.not_eq_true'] at c1
      rw [c1, if_neg (by simp)] at kA
      repeat wtm_at "lwst"
      exact ret_one kA
    rw [Bool.not_eq_false'] at c1
    rw [if_pos c1] at kA
    have hc : c < m.nc := of_decide_eq_true c1
    repeat wtm_at "lwst"
    refine fl_actions T S ?_
    repeat wtm_at "lwst"
    refine new_l (by simp) fun p0 H1 h0n e1 h0 => ?_
    have S1 := S.up e1
    obtain ⟨ms, hms, hmr⟩ := S1.mo
    have hC : m.mo[c]? = some (m.mo[c]'(by rw [W.mo.1]; exact hc)) := List.getElem?_eq_getElem _
    obtain ⟨v, hv, q, ys, rfl, _, hq, hys⟩ := hmr.get' hC
    have eg : m.mo.getD c [] = m.mo[c]'(by rw [W.mo.1]; exact hc) := by rw [List.getD_eq_getElem?_getD, hC, Option.getD_some]
    have rl := (W.mo.2 _ (List.mem_of_getElem? hC)).1
    have := W.na5
    repeat wtm_at "lwst"
    refine fl_model T S1 ?_
    repeat wtm_at "lwst"
    refine st_ixL (sqL_up e1 hp') (atI_nat (j := 0) rfl) ?_
    repeat wtm_at "lwst"
    refine st_ixL (SqL.of hms) (atI_nat hv) ?_
    repeat wtm_at "lwst"
    refine ⟨_, _, rfl, ⟨q, ys, rfl, SqL.of hq, hys⟩, by omega, fun p2 H2 h2n e2 h2 => ?_⟩
    repeat wtm_at "lwst"
    rw [eg] at kA
    exact cat_frs (z := [((m.na : Nat) : Int)]) (by simp) (by omega) (e2 _ _ h0) h2 (kA.go (e1.trans e2))
def sp_bootstrap (K : PySem.W.Frag) (C : Addr) : Sp := Deed K C 23
abbrev s_bootstrap : Stmt := top 126
theorem sc_bootstrap : FnScope ["study", "numbers", "row", "policy", "kind", "limit", "rounds", "seed", "code"] ["study", "numbers", "row"] (defScope s_bootstrap) := ⟨rfl, rfl, rfl, by decide +kernel, rfl, by decide +kernel, by decide +kernel⟩
theorem ok_bootstrap (T : Tx K mg az an aw d1 d2 d3 C) (h : Has K mg "bootstrap" s_bootstrap ["study", "numbers", "row"]) (O_code_of : Ok P w K mg base "code_of" 3 ["study", "policies", "kind", "limit", "least_events"] (sp_code_of K C)) (O_is_between : Ok P w K mg base "is_between" 1 ["number", "least", "most"] (sp_is_between K C)) (O_numbers_of : Ok P w K mg base "numbers_of" 1 ["quotients"] (sp_numbers_of K C)) (O_resampled_estimates : Ok P w K mg base "resampled_estimates" 4 ["values", "rounds", "seed"] (sp_resampled_estimates K C)) (O_terms : Ok P w K mg base "terms" 7 ["study", "policy", "kind", "limit"] (sp_terms K C)) :
    Ok P w K mg base "bootstrap" 8 ["study", "numbers", "row"] (sp_bootstrap K C) := by
  refine ok_of h sc_bootstrap (fun vs H Q E h => ?_) (fun f cdv A outer s H vs Q E hr h => ⟨_, (pss_cons (ps_asg (pv 1) (pg_unlK (K := K) (n := 5) rfl rfl (pgs_cons (pg_name (i := 3) sc_bootstrap.nd rfl (Or.inl rfl)) (pgs_cons (pg_name (i := 4) sc_bootstrap.nd rfl (Or.inl rfl)) (pgs_cons (pg_name (i := 5) sc_bootstrap.nd rfl (Or.inl rfl)) (pgs_cons (pg_name (i := 6) sc_bootstrap.nd rfl (Or.inl rfl)) (pgs_cons (pg_name (i := 7) sc_bootstrap.nd rfl (Or.inl rfl)) pgs_nil)))))))
      (pss_cons (ps_if (pt_not (pt_val (pe_go O_is_between (hr.mono (by decide)) (by rfl) (pa_cons (pv 6) (pa_cons pe_int (pa_cons (pe_globI (by rfl) T.m_MOST_ROUNDS) pa_nil)))))) (pss_one (ps_ret (pe_lst (pa_cons (pe_globI (by rfl) T.m_OUTSIDE) pa_nil)))) pss_nil)
      (pss_cons (ps_set (i := 8) sc_bootstrap.nd rfl (Or.inl rfl) (pe_go O_code_of (hr.mono (by decide)) (by rfl) (pa_cons (pv 0) (pa_cons (pe_lst (pa_cons (pv 3) pa_nil)) (pa_cons (pv 4) (pa_cons (pv 5) (pa_cons pe_int pa_nil)))))))
      (pss_cons (ps_if (pt_cmpR op_ne (pv 8) (pe_globI (by rfl) T.m_FINE) (nomark _)) (pss_one (ps_ret (pe_lst (pa_cons (pv 8) pa_nil)))) pss_nil)
      (pss_one (ps_ret (pe_op op_cat (pe_lst (pa_cons pe_int pa_nil)) (pe_go O_numbers_of (hr.mono (by decide)) (by rfl) (pa_cons (pe_go O_resampled_estimates (hr.mono (by decide)) (by rfl) (pa_cons (pe_go O_terms (hr.mono (by decide)) (by rfl) (pa_cons (pv 0) (pa_cons (pv 3) (pa_cons (pv 4) (pa_cons (pv 5) pa_nil))))) (pa_cons (pv 6) (pa_cons (pv 7) pa_nil)))) pa_nil))))))))), ?_⟩)
  · first | (obtain ⟨_, rfl, _⟩ := h; rfl) | (obtain ⟨_, _, rfl, _⟩ := h; rfl) | (obtain ⟨_, _, _, rfl, _⟩ := h; rfl) | (obtain ⟨_, _, _, _, rfl, _⟩ := h; rfl) | (obtain ⟨_, _, _, _, _, rfl, _⟩ := h; rfl) | (obtain ⟨_, _, _, _, _, _, rfl, _⟩ := h; rfl) | (obtain ⟨_, _, _, _, _, _, _, rfl, _⟩ := h; rfl) | (obtain ⟨_, _, _, _, _, _, _, _, rfl, _⟩ := h; rfl) | (obtain ⟨_, _, _, _, _, _, _, _, _, rfl, _⟩ := h; rfl) | (obtain ⟨_, _, _, _, _, _, _, _, _, _, rfl, _⟩ := h; rfl) | (obtain ⟨_, _, _, _, _, _, _, _, _, _, _, rfl, _⟩ := h; rfl) | (obtain ⟨_, _, _, _, _, _, _, _, _, _, _, _, rfl, _⟩ := h; rfl) | (obtain ⟨_, _, _, _, _, _, _, _, _, _, _, _, _, rfl, _⟩ := h; rfl)

  · obtain ⟨L, m, nv, rv, xs, row, rfl, S, W, ⟨p, rfl, hp⟩, hrow, ok, k⟩ := h
    obtain ⟨a, b, c, d, sd, rfl⟩ := len5 ok.len
    have hp' : SqL K H p [.int (a : Int), .int (b : Int), .int (c : Int), .int (d : Int), .int (sd : Int)] := hp
    have kA : RetA H Q (oBoot m a b c d sd) := deed_read S W k rfl
    unfold oBoot at kA
    have hsd := ok.xs sd (by simp)
    repeat wtm_at "lwst"
    refine st_gunl hp' rfl ?_
    repeat wtm_at "lwst"
    refine ⟨_, _, _, rfl, ?_⟩
    rw [show (decide ((1 : Int) ≤ (d : Int)) && decide ((d : Int) ≤ 50)) = (decide (1 ≤ d) && decide (d ≤ 50)) by rw [Bool.eq_iff_iff]; simp; omega]
    repeat wtm_at "lwst"
    refine cond_2 (fun c1 => ?_) (fun c1 => ?_)
    · rw [Bool.not_eq_true'] at c1
      rw [c1, if_neg (by simp)] at kA
      repeat wtm_at "lwst"
      exact ret_one kA
    rw [Bool.not_eq_false'] at c1
    rw [if_pos c1] at kA
    have hd : 1 ≤ d ∧ d ≤ 50 := by simp at c1; omega
    repeat wtm_at "lwst"
    refine new_l (by simp) fun pl H1 hln e1 hl => ?_
    repeat wtm_at "lwst"
    refine ⟨L, m, _, [a], b, c, 1, rfl, S.up e1, ⟨pl, rfl, SqL.of hl⟩, ?_⟩
    repeat wtm_at "lwst"
    refine cond_code (fun cz => ?_) (fun cz => ?_)
    · rw [if_neg cz] at kA
      repeat wtm_at "lwst"
      exact ret_one (kA.go e1)
    rw [if_pos cz] at kA
    obtain ⟨f1, f2, f3, f4⟩ := code_fine cz
    have ha := f1 a (by simp)
    have l1 : (terms m a b c).length = m.ev.length := List.length_map _
    repeat wtm_at "lwst"
    refine new_l (by simp) fun p0 H2 h0n e2 h0 => ?_
    repeat wtm_at "lwst"
    refine ⟨L, m, a, b, c, rfl, (S.up e1).up e2, W, ha, f3, fun v H3 e3 hv => ?_⟩
    repeat wtm_at "lwst"
    refine ⟨v, _, d, sd, rfl, hv, bs_terms W ha f3, by omega, hd.1, hd.2, hsd, fun u H4 e4 hu => ?_⟩
    repeat wtm_at "lwst"
    refine ⟨u, _, rfl, hu, by unfold boots; simp, fun p2 H5 h2n e5 h2 => ?_⟩
    repeat wtm_at "lwst"
    exact cat_frs (z := [0]) (by simp) (by unfold boots; simp) (e5 _ _ (e4 _ _ (e3 _ _ h0))) h2 (kA.go ((((e1.trans e2).trans e3).trans e4).trans e5))
def sp_status (K : PySem.W.Frag) (C : Addr) : Sp := Deed K C 28
theorem sum_nat_int (l : List Nat) : (l.map fun (n : Nat) => (n : Int)).sum = ((l.sum : Nat) : Int) := nz_sum l
abbrev s_status : Stmt := top 127
theorem sc_status : FnScope ["study", "numbers", "row", "rewards", "event"] ["study", "numbers", "row"] (defScope s_status) := ⟨rfl, rfl, rfl, by decide +kernel, rfl, by decide +kernel, by decide +kernel⟩
theorem ok_status (T : Tx K mg az an aw d1 d2 d3 C) (h : Has K mg "status" s_status ["study", "numbers", "row"]) :
    Ok P w K mg base "status" 1 ["study", "numbers", "row"] (sp_status K C) := by
  refine ok_of h sc_status (fun vs H Q E h => ?_) (fun f cdv A outer s H vs Q E hr h => ⟨_, (pss_cons (ps_set (i := 3) sc_status.nd rfl (Or.inl rfl) (pe_callB (cr_sumK (K := K) rfl rfl) (by rfl) T.b_sum (by decide +kernel) (pa_cons (pe_lc (own := [("event", 4)]) (by rfl) sc_status.nd (pi_list (pe_fldK (K := K) rfl (pv 0) rfl)) (blkOk_by (own := [("event", 4)]) (N := ["study", "numbers", "row", "rewards", "event"]) (sc := defScope s_status) (by decide +kernel)) (fun _ _ _ _ _ => (pg_name (i := 4) sc_status.nd rfl (Or.inl rfl))) (fun _ _ _ _ _ => pts_nil) (fun _ _ _ _ _ => (pe_ix (ix_tupK (K := K) rfl) (pv 4) pe_int (fun _ _ => rfl)))) pa_nil)))
      (pss_one (ps_ret (pe_lst (pa_cons (pe_fldK (K := K) rfl (pv 0) rfl) (pa_cons (pe_fldK (K := K) rfl (pv 0) rfl) (pa_cons (pe_callB (cb_lenK (K := K) rfl) (by rfl) T.b_len PySem.boot_len (pa_cons (pe_fldK (K := K) rfl (pv 0) rfl) pa_nil)) (pa_cons (pv 3) pa_nil)))))))), ?_⟩)
  · first | (obtain ⟨_, rfl, _⟩ := h; rfl) | (obtain ⟨_, _, rfl, _⟩ := h; rfl) | (obtain ⟨_, _, _, rfl, _⟩ := h; rfl) | (obtain ⟨_, _, _, _, rfl, _⟩ := h; rfl) | (obtain ⟨_, _, _, _, _, rfl, _⟩ := h; rfl) | (obtain ⟨_, _, _, _, _, _, rfl, _⟩ := h; rfl) | (obtain ⟨_, _, _, _, _, _, _, rfl, _⟩ := h; rfl) | (obtain ⟨_, _, _, _, _, _, _, _, rfl, _⟩ := h; rfl) | (obtain ⟨_, _, _, _, _, _, _, _, _, rfl, _⟩ := h; rfl) | (obtain ⟨_, _, _, _, _, _, _, _, _, _, rfl, _⟩ := h; rfl) | (obtain ⟨_, _, _, _, _, _, _, _, _, _, _, rfl, _⟩ := h; rfl) | (obtain ⟨_, _, _, _, _, _, _, _, _, _, _, _, rfl, _⟩ := h; rfl) | (obtain ⟨_, _, _, _, _, _, _, _, _, _, _, _, _, rfl, _⟩ := h; rfl)

  · obtain ⟨L, m, nv, rv, xs, row, rfl, S, W, ⟨p, rfl, hp⟩, hrow, ok, k⟩ := h
    obtain rfl := len0 ok.len
    have kA : RetA H Q (oStatus m) := deed_read S W k rfl
    obtain ⟨ex, hex, hes⟩ := S.evs
    repeat wtm_at "lwst"
    refine fl_events T S ?_
    repeat wtm_at "lwst"
    refine go_lcL (R := RI) (zs := m.ev.map fun e => ((e.r : Nat) : Int)) (map_len hes) (ev_len W hes) (Same.refl H) hex RI.up RI.mu (fun D i x z H1 hi hz hD e ha Q' kq => ?_) (fun np H1 ws hnp e1 h1 a1 => ?_)
    · obtain ⟨ev, hev, hq0⟩ := hes.get hi
      obtain rfl := map_at hz hev
      obtain ⟨ep, z, rfl, hep, hz4⟩ := hq0.up e
      repeat wtm_at "lwst"
      refine ⟨rfl, ?_⟩
      repeat wtm_at "lwst"
      exact kq _ H1 (Same.refl _) rfl
    · have ew : ws = (m.ev.map fun e => ((e.r : Nat) : Int)).map V.int := all2_ri a1
      subst ew
      repeat wtm_at "lwst"
      refine st_sum (SqL.of h1) ?_
      repeat wtm_at "lwst"
      refine fl_contexts T (S.up e1) ?_
      repeat wtm_at "lwst"
      refine fl_actions T (S.up e1) ?_
      repeat wtm_at "lwst"
      refine fl_events T (S.up e1) ?_
      repeat wtm_at "lwst"
      refine st_len (sqL_up e1 hex) ?_
      repeat wtm_at "lwst"
      refine new_l (by simp) fun p0 H2 h0n e2 h0 => kA p0 H2 (e1.free h0n) (e1.trans e2) ?_
      rw [h0, hes.len]
      have es : (m.ev.map fun e => ((e.r : Nat) : Int)).sum = (((m.ev.map Ev.r).sum : Nat) : Int) := by
        rw [← sum_nat_int, List.map_map]
        rfl
      rw [es]
      rfl
end
end Lw

namespace Lw
open PySem PySem.Spec PyProof.Rows L2
local macro_rules | `(tactic| wtm_at "lwsame") => `(tactic| first
  | assumption | exact Same.refl _ | (refine Same.trans (by assumption) ?_; wtm_at "lwsame"))
local macro_rules | `(tactic| wtm_at "lwup") => `(tactic| first
  | assumption
  | ((with_reducible show SqT _ _ _ _); first | (refine sqT_up ?_ (by assumption); wtm_at "lwsame") | (refine KT.sq ?_ _; assumption) | (refine SqT.of ?_; wtm_at "lwup"))
  | ((with_reducible show SqL _ _ _ _); first | (refine sqL_up ?_ (by assumption); wtm_at "lwsame") | (refine SqL.of ?_; wtm_at "lwup"))
  | ((with_reducible show _ = some _); refine (show Same _ _ by wtm_at "lwsame") _ _ (by assumption))
  | ((with_reducible show Fq _ _ _ _); refine Fq.up ?_ (by assumption); wtm_at "lwsame")
  | ((with_reducible show Fs _ _ _ _); refine Fs.up ?_ (by assumption); wtm_at "lwsame")
  | ((with_reducible show Is _ _ _ _); refine Is.up ?_ (by assumption); wtm_at "lwsame")
  | ((with_reducible show Ns _ _ _ _); refine Ns.up ?_ (by assumption); wtm_at "lwsame")
  | ((with_reducible show Eq4 _ _ _ _); refine Eq4.up ?_ (by assumption); wtm_at "lwsame")
  | ((with_reducible show Evs _ _ _ _); refine Evs.up ?_ (by assumption); wtm_at "lwsame"))
local macro_rules | `(tactic| wtm_at "lwst2") => `(tactic| first
  | (with_reducible refine st_drop ?_)
  | (with_reducible refine st_par ?_)
  | (with_reducible refine st_par2 ?_)
  | (with_reducible refine st_un ?_)
  | (with_reducible refine st_rU ?_)
  | (with_reducible refine st_B ?_)
  | (with_reducible refine st_not ?_)
  | (with_reducible refine st_and ?_)
  | (with_reducible refine st_or ?_)
  | (with_reducible refine st_andV ?_)
  | (with_reducible refine st_orV ?_)
  | (with_reducible refine st_isB2 ?_)
  | (with_reducible refine st_ifE ?_)
  | (with_reducible refine st_yes ?_)
  | (with_reducible refine st_forL ?_)
  | (with_reducible refine st_forR ?_)
  | (with_reducible refine st_lcL ?_)
  | (with_reducible refine st_lcR ?_)
  | (with_reducible refine st_lcZ ?_)
  | (with_reducible refine st_bm ?_)
  | (with_reducible refine st_sfld ?_)
  | (with_reducible refine st_gsub ?_)
  | (with_reducible refine st_meth ?_)
  | (with_reducible refine st_sl ?_)
  | (with_reducible refine st_nopart ?_)
  | (with_reducible refine st_part ?_)
  | (with_reducible refine st_isI ?_)
  | (with_reducible refine st_rev ?_)
  | (with_reducible refine st_ckw ?_)
  | (with_reducible refine st_abs ?_)
  | ((with_reducible refine st_eq ?hh ?_); (case hh => exact rfl))
  | ((with_reducible refine st_ne ?hh ?_); (case hh => exact rfl))
  | ((with_reducible refine st_ixT (v := ?vv) (xs := ?xx) ?hh ?hi ?_); (case hh => wtm_at "lwup"); (case hi => exact rfl))
  | ((with_reducible refine st_gtup (xs := ?xx) ?hh ?hi ?_); (case hh => wtm_at "lwup"); (case hi => exact rfl)))
local macro_rules | `(tactic| wtm_at "lwst") => `(tactic| first
  | (with_reducible refine st_cons ?_)
  | ((with_reducible refine st_var (v := ?vv) ?hh ?_); (case hh => exact rfl))
  | (with_reducible refine st_nil ?_)
  | (with_reducible refine st_call ?_)
  | (with_reducible refine st_gname ?_)
  | (with_reducible refine st_c ?_)
  | (with_reducible refine st_seq ?_)
  | (with_reducible refine st_op ?_)
  | (with_reducible refine st_ret ?_)
  | (with_reducible refine st_lst ?_)
  | (with_reducible refine st_gcons ?_)
  | (with_reducible refine st_asg ?_)
  | (with_reducible refine st_isB ?_)
  | (with_reducible refine st_ifS ?_)
  | (with_reducible refine st_nx0 ?_)
  | (with_reducible refine st_test ?_)
  | (with_reducible refine st_fld ?_)
  | (with_reducible refine st_nx ?_)
  | (with_reducible refine st_rI0 ?_)
  | (with_reducible refine st_callB ?_)
  | (with_reducible refine st_gnil ?_)
  | (with_reducible refine st_tup ?_)
  | wtm_at "lwst2")

section
variable {P : Program} {w : World} {K : PySem.W.Frag} {mg : Str → Option Value} {base : Heap} {az an aw d1 d2 d3 C : Addr}

def sp_true_value (K : PySem.W.Frag) (C : Addr) : Sp := Deed K C 20
abbrev s_true_value : Stmt := top 103
theorem sc_true_value : FnScope ["study", "numbers", "row"] ["study", "numbers", "row"] (defScope s_true_value) := ⟨rfl, rfl, rfl, by decide +kernel, rfl, by decide +kernel, by decide +kernel⟩
theorem ok_true_value (T : Tx K mg az an aw d1 d2 d3 C) (h : Has K mg "true_value" s_true_value ["study", "numbers", "row"]) (O_is_policy : Ok P w K mg base "is_policy" 2 ["policy"] (sp_is_policy K C)) (O_numbers_of : Ok P w K mg base "numbers_of" 1 ["quotients"] (sp_numbers_of K C)) (O_true_value_of : Ok P w K mg base "true_value_of" 6 ["study", "policy"] (sp_true_value_of K C)) :
    Ok P w K mg base "true_value" 7 ["study", "numbers", "row"] (sp_true_value K C) := by
  refine ok_of h sc_true_value (fun vs H Q E h => ?_) (fun f cdv A outer s H vs Q E hr h => ⟨_, (pss_cons (ps_if (pt_not (pt_val (pe_go O_is_policy (hr.mono (by decide)) (by rfl) (pa_cons (pe_ix (ix_listK (K := K) rfl) (pv 1) pe_int (fun _ _ => rfl)) pa_nil)))) (pss_one (ps_ret (pe_lst (pa_cons (pe_globI (by rfl) T.m_NOT_THERE) pa_nil)))) pss_nil)
      (pss_one (ps_ret (pe_op op_cat (pe_lst (pa_cons pe_int pa_nil)) (pe_go O_numbers_of (hr.mono (by decide)) (by rfl) (pa_cons (pe_lst (pa_cons (pe_go O_true_value_of (hr.mono (by decide)) (by rfl) (pa_cons (pv 0) (pa_cons (pe_ix (ix_listK (K := K) rfl) (pv 1) pe_int (fun _ _ => rfl)) pa_nil))) pa_nil)) pa_nil)))))), ?_⟩)
  · first | (obtain ⟨_, rfl, _⟩ := h; rfl) | (obtain ⟨_, _, rfl, _⟩ := h; rfl) | (obtain ⟨_, _, _, rfl, _⟩ := h; rfl) | (obtain ⟨_, _, _, _, rfl, _⟩ := h; rfl) | (obtain ⟨_, _, _, _, _, rfl, _⟩ := h; rfl) | (obtain ⟨_, _, _, _, _, _, rfl, _⟩ := h; rfl) | (obtain ⟨_, _, _, _, _, _, _, rfl, _⟩ := h; rfl) | (obtain ⟨_, _, _, _, _, _, _, _, rfl, _⟩ := h; rfl) | (obtain ⟨_, _, _, _, _, _, _, _, _, rfl, _⟩ := h; rfl) | (obtain ⟨_, _, _, _, _, _, _, _, _, _, rfl, _⟩ := h; rfl) | (obtain ⟨_, _, _, _, _, _, _, _, _, _, _, rfl, _⟩ := h; rfl) | (obtain ⟨_, _, _, _, _, _, _, _, _, _, _, _, rfl, _⟩ := h; rfl) | (obtain ⟨_, _, _, _, _, _, _, _, _, _, _, _, _, rfl, _⟩ := h; rfl)

  · obtain ⟨L, m, nv, rv, xs, row, rfl, S, W, ⟨p, rfl, hp⟩, hrow, ok, k⟩ := h
    obtain ⟨a, rfl⟩ := len1 ok.len
    have hp' : SqL K H p [.int (a : Int)] := hp
    have kA : RetA H Q (oTrue m a) := deed_read S W k rfl
    unfold oTrue at kA
    repeat wtm_at "lwst"
    refine st_ixL hp' (atI_nat (j := 0) rfl) ?_
    repeat wtm_at "lwst"
    refine ⟨a, rfl, ?_⟩
    repeat wtm_at "lwst"
    refine cond_2 (fun c1 => ?_) (fun c1 => ?_)
    · rw [Bool.not_eq_true'] at c1
      rw [c1, if_neg (by simp)] at kA
      repeat wtm_at "lwst"
      exact ret_one kA
    rw [Bool.not_eq_false'] at c1
    rw [if_pos c1] at kA
    repeat wtm_at "lwst"
    refine new_l (by simp) fun p0 H2 h0n e2 h0 => ?_
    repeat wtm_at "lwst"
    refine st_ixL (sqL_up e2 hp') (atI_nat (j := 0) rfl) ?_
    repeat wtm_at "lwst"
    refine ⟨L, m, a, rfl, S.up e2, W, pol_lt c1, fun y H3 e3 hy => ?_⟩
    repeat wtm_at "lwst"
    refine new_l (by simp) fun p1 H4 h1n e4 h1 => ?_
    repeat wtm_at "lwst"
    refine ⟨_, [_], rfl, fs_one h1 (hy.up e4), by simp, fun p2 H5 h2n e5 h2 => ?_⟩
    repeat wtm_at "lwst"
    exact cat_frs (z := [0]) (by simp) (by simp) (e5 _ _ (e4 _ _ (e3 _ _ h0))) h2 (kA.go (((e2.trans e3).trans e4).trans e5))
def sp_expectation (K : PySem.W.Frag) (C : Addr) : Sp := Deed K C 21
abbrev s_expectation : Stmt := top 104
theorem sc_expectation : FnScope ["study", "numbers", "row", "logging", "policy", "kind", "limit", "middle", "spread"] ["study", "numbers", "row"] (defScope s_expectation) := ⟨rfl, rfl, rfl, by decide +kernel, rfl, by decide +kernel, by decide +kernel⟩
theorem ok_expectation (T : Tx K mg az an aw d1 d2 d3 C) (h : Has K mg "expectation" s_expectation ["study", "numbers", "row"]) (O_moments : Ok P w K mg base "moments" 7 ["study", "logging", "policy", "kind", "limit"] (sp_moments K C)) (O_is_estimator : Ok P w K mg base "is_estimator" 2 ["kind", "limit"] (sp_is_estimator K C)) (O_numbers_of : Ok P w K mg base "numbers_of" 1 ["quotients"] (sp_numbers_of K C)) (O_is_policy : Ok P w K mg base "is_policy" 2 ["policy"] (sp_is_policy K C)) :
    Ok P w K mg base "expectation" 8 ["study", "numbers", "row"] (sp_expectation K C) := by
  refine ok_of h sc_expectation (fun vs H Q E h => ?_) (fun f cdv A outer s H vs Q E hr h => ⟨_, (pss_cons (ps_asg (pv 1) (pg_unlK (K := K) (n := 4) rfl rfl (pgs_cons (pg_name (i := 3) sc_expectation.nd rfl (Or.inl rfl)) (pgs_cons (pg_name (i := 4) sc_expectation.nd rfl (Or.inl rfl)) (pgs_cons (pg_name (i := 5) sc_expectation.nd rfl (Or.inl rfl)) (pgs_cons (pg_name (i := 6) sc_expectation.nd rfl (Or.inl rfl)) pgs_nil))))))
      (pss_cons (ps_if (PW.pt (pw_or (pt_not (pt_val (pe_go O_is_policy (hr.mono (by decide)) (by rfl) (pa_cons (pv 3) pa_nil)))) (pw_or1 (pt_not (pt_val (pe_go O_is_policy (hr.mono (by decide)) (by rfl) (pa_cons (pv 4) pa_nil))))))) (pss_one (ps_ret (pe_lst (pa_cons (pe_globI (by rfl) T.m_NOT_THERE) pa_nil)))) pss_nil)
      (pss_cons (ps_if (pt_not (pt_val (pe_go O_is_estimator (hr.mono (by decide)) (by rfl) (pa_cons (pv 5) (pa_cons (pv 6) pa_nil))))) (pss_one (ps_ret (pe_lst (pa_cons (pe_globI (by rfl) T.m_OUTSIDE) pa_nil)))) pss_nil)
      (pss_cons (ps_asg (pe_go O_moments (hr.mono (by decide)) (by rfl) (pa_cons (pv 0) (pa_cons (pv 3) (pa_cons (pv 4) (pa_cons (pv 5) (pa_cons (pv 6) pa_nil)))))) (pg_tupK (K := K) (n := 2) rfl rfl (pgs_cons (pg_name (i := 7) sc_expectation.nd rfl (Or.inl rfl)) (pgs_cons (pg_name (i := 8) sc_expectation.nd rfl (Or.inl rfl)) pgs_nil))))
      (pss_one (ps_ret (pe_op op_cat (pe_lst (pa_cons pe_int pa_nil)) (pe_go O_numbers_of (hr.mono (by decide)) (by rfl) (pa_cons (pe_lst (pa_cons (pv 7) (pa_cons (pv 8) pa_nil))) pa_nil))))))))), ?_⟩)
  · first | (obtain ⟨_, rfl, _⟩ := h; rfl) | (obtain ⟨_, _, rfl, _⟩ := h; rfl) | (obtain ⟨_, _, _, rfl, _⟩ := h; rfl) | (obtain ⟨_, _, _, _, rfl, _⟩ := h; rfl) | (obtain ⟨_, _, _, _, _, rfl, _⟩ := h; rfl) | (obtain ⟨_, _, _, _, _, _, rfl, _⟩ := h; rfl) | (obtain ⟨_, _, _, _, _, _, _, rfl, _⟩ := h; rfl) | (obtain ⟨_, _, _, _, _, _, _, _, rfl, _⟩ := h; rfl) | (obtain ⟨_, _, _, _, _, _, _, _, _, rfl, _⟩ := h; rfl) | (obtain ⟨_, _, _, _, _, _, _, _, _, _, rfl, _⟩ := h; rfl) | (obtain ⟨_, _, _, _, _, _, _, _, _, _, _, rfl, _⟩ := h; rfl) | (obtain ⟨_, _, _, _, _, _, _, _, _, _, _, _, rfl, _⟩ := h; rfl) | (obtain ⟨_, _, _, _, _, _, _, _, _, _, _, _, _, rfl, _⟩ := h; rfl)

  · obtain ⟨L, m, nv, rv, xs, row, rfl, S, W, ⟨p, rfl, hp⟩, hrow, ok, k⟩ := h
    obtain ⟨g, a, b, c, rfl⟩ := len4 ok.len
    have hp' : SqL K H p [.int (g : Int), .int (a : Int), .int (b : Int), .int (c : Int)] := hp
    have kA : RetA H Q (oExp m g a b c) := deed_read S W k rfl
    unfold oExp at kA
    repeat wtm_at "lwst"
    refine st_gunl hp' rfl ?_
    repeat wtm_at "lwst"
    refine ⟨g, rfl, ?_⟩
    repeat wtm_at "lwst"
    refine cond_2 (fun c1 => ?_) (fun c1 => ?_)
    · rw [Bool.not_eq_true'] at c1
      rw [c1, if_neg (by simp)] at kA
      repeat wtm_at "lwst"
      exact ret_one kA
    rw [Bool.not_eq_false'] at c1
    repeat wtm_at "lwst"
    refine ⟨a, rfl, ?_⟩
    repeat wtm_at "lwst"
    refine cond_2 (fun c2 => ?_) (fun c2 => ?_)
    · rw [Bool.not_eq_true'] at c2
      rw [c1, c2, if_neg (by simp)] at kA
      repeat wtm_at "lwst"
      exact ret_one kA
    rw [Bool.not_eq_false'] at c2
    rw [c1, c2, if_pos (show (true && true) = true from rfl)] at kA
    repeat wtm_at "lwst"
    refine ⟨b, c, rfl, ?_⟩
    repeat wtm_at "lwst"
    refine cond_2 (fun c3 => ?_) (fun c3 => ?_)
    · rw [Bool.not_eq_true'] at c3
      rw [c3, if_neg (by simp)] at kA
      repeat wtm_at "lwst"
      exact ret_one kA
    rw [Bool.not_eq_false'] at c3
    rw [if_pos c3] at kA
    repeat wtm_at "lwst"
    refine ⟨L, m, g, a, b, c, rfl, S, W, pol_lt c1, pol_lt c2, (est_lim c3).2, fun v H1 e1 ⟨tp, u1, u2, ev, htp, hu1, hu2⟩ => ?_⟩
    subst ev
    repeat wtm_at "lwst"
    refine new_l (by simp) fun p0 H2 h0n e2 h0 => ?_
    repeat wtm_at "lwst"
    refine new_l (by simp) fun p1 H4 h1n e4 h1 => ?_
    repeat wtm_at "lwst"
    refine ⟨_, [_, _], rfl, fs_two h1 ((hu1.up e2).up e4) ((hu2.up e2).up e4), by simp, fun p2 H5 h2n e5 h2 => ?_⟩
    repeat wtm_at "lwst"
    exact cat_frs (z := [0]) (by simp) (by simp) (e5 _ _ (e4 _ _ h0)) h2 (kA.go (((e1.trans e2).trans e4).trans e5))
def sp_unsupported (K : PySem.W.Frag) (C : Addr) : Sp := Deed K C 22
abbrev s_unsupported : Stmt := top 105
theorem sc_unsupported : FnScope ["study", "numbers", "row", "logging", "policy", "found"] ["study", "numbers", "row"] (defScope s_unsupported) := ⟨rfl, rfl, rfl, by decide +kernel, rfl, by decide +kernel, by decide +kernel⟩
theorem ok_unsupported (T : Tx K mg az an aw d1 d2 d3 C) (h : Has K mg "unsupported" s_unsupported ["study", "numbers", "row"]) (O_unsupported_pairs : Ok P w K mg base "unsupported_pairs" 4 ["study", "logging", "policy"] (sp_unsupported_pairs K C)) (O_is_policy : Ok P w K mg base "is_policy" 2 ["policy"] (sp_is_policy K C)) :
    Ok P w K mg base "unsupported" 5 ["study", "numbers", "row"] (sp_unsupported K C) := by
  refine ok_of h sc_unsupported (fun vs H Q E h => ?_) (fun f cdv A outer s H vs Q E hr h => ⟨_, (pss_cons (ps_asg (pv 1) (pg_unlK (K := K) (n := 2) rfl rfl (pgs_cons (pg_name (i := 3) sc_unsupported.nd rfl (Or.inl rfl)) (pgs_cons (pg_name (i := 4) sc_unsupported.nd rfl (Or.inl rfl)) pgs_nil))))
      (pss_cons (ps_if (PW.pt (pw_or (pt_not (pt_val (pe_go O_is_policy (hr.mono (by decide)) (by rfl) (pa_cons (pv 3) pa_nil)))) (pw_or1 (pt_not (pt_val (pe_go O_is_policy (hr.mono (by decide)) (by rfl) (pa_cons (pv 4) pa_nil))))))) (pss_one (ps_ret (pe_lst (pa_cons (pe_globI (by rfl) T.m_NOT_THERE) pa_nil)))) pss_nil)
      (pss_cons (ps_set (i := 5) sc_unsupported.nd rfl (Or.inl rfl) (pe_go O_unsupported_pairs (hr.mono (by decide)) (by rfl) (pa_cons (pv 0) (pa_cons (pv 3) (pa_cons (pv 4) pa_nil)))))
      (pss_one (ps_ret (pe_op op_cat (pe_lst (pa_cons (pe_op op_fdivW (pe_callB (cb_lenK (K := K) rfl) (by rfl) T.b_len PySem.boot_len (pa_cons (pv 5) pa_nil)) pe_int) pa_nil)) (pv 5))))))), ?_⟩)
  · first | (obtain ⟨_, rfl, _⟩ := h; rfl) | (obtain ⟨_, _, rfl, _⟩ := h; rfl) | (obtain ⟨_, _, _, rfl, _⟩ := h; rfl) | (obtain ⟨_, _, _, _, rfl, _⟩ := h; rfl) | (obtain ⟨_, _, _, _, _, rfl, _⟩ := h; rfl) | (obtain ⟨_, _, _, _, _, _, rfl, _⟩ := h; rfl) | (obtain ⟨_, _, _, _, _, _, _, rfl, _⟩ := h; rfl) | (obtain ⟨_, _, _, _, _, _, _, _, rfl, _⟩ := h; rfl) | (obtain ⟨_, _, _, _, _, _, _, _, _, rfl, _⟩ := h; rfl) | (obtain ⟨_, _, _, _, _, _, _, _, _, _, rfl, _⟩ := h; rfl) | (obtain ⟨_, _, _, _, _, _, _, _, _, _, _, rfl, _⟩ := h; rfl) | (obtain ⟨_, _, _, _, _, _, _, _, _, _, _, _, rfl, _⟩ := h; rfl) | (obtain ⟨_, _, _, _, _, _, _, _, _, _, _, _, _, rfl, _⟩ := h; rfl)

  · obtain ⟨L, m, nv, rv, xs, row, rfl, S, W, ⟨p, rfl, hp⟩, hrow, ok, k⟩ := h
    obtain ⟨g, a, rfl⟩ := len2 ok.len
    have hp' : SqL K H p [.int (g : Int), .int (a : Int)] := hp
    have kA : RetA H Q (oUns m g a) := deed_read S W k rfl
    unfold oUns at kA
    repeat wtm_at "lwst"
    refine st_gunl hp' rfl ?_
    repeat wtm_at "lwst"
    refine ⟨g, rfl, ?_⟩
    repeat wtm_at "lwst"
    refine cond_2 (fun c1 => ?_) (fun c1 => ?_)
    · rw [Bool.not_eq_true'] at c1
      rw [c1, if_neg (by simp)] at kA
      repeat wtm_at "lwst"
      exact ret_one kA
    rw [Bool.not_eq_false'] at c1
    repeat wtm_at "lwst"
    refine ⟨a, rfl, ?_⟩
    repeat wtm_at "lwst"
    refine cond_2 (fun c2 => ?_) (fun c2 => ?_)
    · rw [Bool.not_eq_true'] at c2
      rw [c1, c2, if_neg (by simp)] at kA
      repeat wtm_at "lwst"
      exact ret_one kA
    rw [Bool.not_eq_false'] at c2
    rw [c1, c2, if_pos (show (true && true) = true from rfl)] at kA
    repeat wtm_at "lwst"
    refine ⟨L, m, g, a, rfl, S, W, pol_lt c1, pol_lt c2, fun lp H1 e1 h1 => ?_⟩
    have ul : (unsup m g a).length ≤ 30 := by
      rw [← uns_all]
      have h1 := unsIn_len m g a m.nc 0
      have h2 : m.nc * m.na ≤ 6 * 5 := Nat.mul_le_mul W.nc6 W.na5
      omega
    repeat wtm_at "lwst"
    refine st_len (SqL.of h1) ?_
    repeat wtm_at "lwst"
    refine st_rI ⟨by decide, by decide +kernel⟩ ?_
    repeat wtm_at "lwst"
    rw [List.length_map, pairs_len]
    rw [show (((2 * (unsup m g a).length : Nat) : Int) / 2) = (((unsup m g a).length : Nat) : Int) by omega]
    refine new_l (by simp) fun p0 H2 h0n e2 h0 => ?_
    repeat wtm_at "lwst"
    refine st_cat h0 (e2 _ _ h1) (by rw [List.length_map, pairs_len]; simp; omega) fun p2 H3 h2n e3 h3 => ?_
    repeat wtm_at "lwst"
    exact (kA.go (e1.trans e2)) p2 H3 h2n e3 h3
def sp_precision (K : PySem.W.Frag) (C : Addr) : Sp := Deed K C 24
abbrev s_precision : Stmt := top 106
theorem sc_precision : FnScope ["study", "numbers", "row", "many"] ["study", "numbers", "row"] (defScope s_precision) := ⟨rfl, rfl, rfl, by decide +kernel, rfl, by decide +kernel, by decide +kernel⟩
theorem ok_precision (T : Tx K mg az an aw d1 d2 d3 C) (h : Has K mg "precision" s_precision ["study", "numbers", "row"]) (O_numbers_of : Ok P w K mg base "numbers_of" 1 ["quotients"] (sp_numbers_of K C)) (O_is_between : Ok P w K mg base "is_between" 1 ["number", "least", "most"] (sp_is_between K C)) (O_is_ranked : Ok P w K mg base "is_ranked" 3 ["row", "least_ranks", "most_number"] (sp_is_ranked K C)) (O_precision_at : Ok P w K mg base "precision_at" 3 ["relevance", "many"] (sp_precision_at K C)) :
    Ok P w K mg base "precision" 4 ["study", "numbers", "row"] (sp_precision K C) := by
  refine ok_of h sc_precision (fun vs H Q E h => ?_) (fun f cdv A outer s H vs Q E hr h => ⟨_, (pss_cons (ps_set (i := 3) sc_precision.nd rfl (Or.inl rfl) (pe_ix (ix_listK (K := K) rfl) (pv 1) pe_int (fun _ _ => rfl)))
      (pss_cons (ps_if (PW.pt (pw_or (pt_not (pt_val (pe_go O_is_between (hr.mono (by decide)) (by rfl) (pa_cons (pv 3) (pa_cons pe_int (pa_cons (pe_globI (by rfl) T.m_MOST_RANKS) pa_nil)))))) (pw_or1 (pt_not (pt_val (pe_go O_is_ranked (hr.mono (by decide)) (by rfl) (pa_cons (pv 2) (pa_cons pe_int (pa_cons pe_int pa_nil))))))))) (pss_one (ps_ret (pe_lst (pa_cons (pe_globI (by rfl) T.m_OUTSIDE) pa_nil)))) pss_nil)
      (pss_one (ps_ret (pe_op op_cat (pe_lst (pa_cons pe_int pa_nil)) (pe_go O_numbers_of (hr.mono (by decide)) (by rfl) (pa_cons (pe_lst (pa_cons (pe_go O_precision_at (hr.mono (by decide)) (by rfl) (pa_cons (pv 2) (pa_cons (pv 3) pa_nil))) pa_nil)) pa_nil))))))), ?_⟩)
  · first | (obtain ⟨_, rfl, _⟩ := h; rfl) | (obtain ⟨_, _, rfl, _⟩ := h; rfl) | (obtain ⟨_, _, _, rfl, _⟩ := h; rfl) | (obtain ⟨_, _, _, _, rfl, _⟩ := h; rfl) | (obtain ⟨_, _, _, _, _, rfl, _⟩ := h; rfl) | (obtain ⟨_, _, _, _, _, _, rfl, _⟩ := h; rfl) | (obtain ⟨_, _, _, _, _, _, _, rfl, _⟩ := h; rfl) | (obtain ⟨_, _, _, _, _, _, _, _, rfl, _⟩ := h; rfl) | (obtain ⟨_, _, _, _, _, _, _, _, _, rfl, _⟩ := h; rfl) | (obtain ⟨_, _, _, _, _, _, _, _, _, _, rfl, _⟩ := h; rfl) | (obtain ⟨_, _, _, _, _, _, _, _, _, _, _, rfl, _⟩ := h; rfl) | (obtain ⟨_, _, _, _, _, _, _, _, _, _, _, _, rfl, _⟩ := h; rfl) | (obtain ⟨_, _, _, _, _, _, _, _, _, _, _, _, _, rfl, _⟩ := h; rfl)

  · obtain ⟨L, m, nv, rv, xs, row, rfl, S, W, ⟨p, rfl, hp⟩, hrow, ok, k⟩ := h
    obtain ⟨a, rfl⟩ := len1 ok.len
    have hp' : SqL K H p [.int (a : Int)] := hp
    have kA : RetA H Q (oPrec a row) := deed_read S W k rfl
    unfold oPrec at kA
    repeat wtm_at "lwst"
    refine st_ixL hp' (atI_nat (j := 0) rfl) ?_
    repeat wtm_at "lwst"
    refine ⟨_, _, _, rfl, ?_⟩
    rw [show (decide ((1 : Int) ≤ ((a : Nat) : Int)) && decide (((a : Nat) : Int) ≤ 12)) = (decide (1 ≤ a) && decide (a ≤ 12)) by rw [Bool.eq_iff_iff]; simp; omega]
    repeat wtm_at "lwst"
    refine cond_2 (fun c1 => ?_) (fun c1 => ?_)
    · rw [Bool.not_eq_true'] at c1
      rw [c1, if_neg (by simp)] at kA
      repeat wtm_at "lwst"
      exact ret_one kA
    rw [Bool.not_eq_false'] at c1
    have ha : 1 ≤ a ∧ a ≤ 12 := by simp at c1; omega
    repeat wtm_at "lwst"
    refine ⟨rv, row, 1, 1, rfl, hrow, ?_⟩
    repeat wtm_at "lwst"
    refine cond_2 (fun c2 => ?_) (fun c2 => ?_)
    · rw [Bool.not_eq_true'] at c2
      rw [c1, c2, if_neg (by simp)] at kA
      repeat wtm_at "lwst"
      exact ret_one kA
    rw [Bool.not_eq_false'] at c2
    rw [c1, c2, if_pos (show (true && true) = true from rfl)] at kA
    repeat wtm_at "lwst"
    refine new_l (by simp) fun p0 H2 h0n e2 h0 => ?_
    repeat wtm_at "lwst"
    refine ⟨rv, row, a, rfl, hrow.up e2, ha.1, ha.2, fun y H3 e3 hy => ?_⟩
    repeat wtm_at "lwst"
    refine new_l (by simp) fun p1 H4 h1n e4 h1 => ?_
    repeat wtm_at "lwst"
    refine ⟨_, [_], rfl, fs_one h1 (hy.up e4), by simp, fun p2 H5 h2n e5 h2 => ?_⟩
    repeat wtm_at "lwst"
    exact cat_frs (z := [0]) (by simp) (by simp) (e5 _ _ (e4 _ _ (e3 _ _ h0))) h2 (kA.go (((e2.trans e3).trans e4).trans e5))
theorem ranked_le {l : List Nat} {n t : Nat} (h : isRanked l n t = true) : n ≤ l.length ∧ l.length ≤ 12 ∧ ∀ x ∈ l, x ≤ t := by
  unfold isRanked at h
  rw [Bool.and_eq_true, Bool.and_eq_true] at h
  exact ⟨of_decide_eq_true h.1.1, of_decide_eq_true h.1.2, allLe_mem h.2⟩
def sp_rank_measures (K : PySem.W.Frag) (C : Addr) : Sp := Deed K C 25
abbrev s_rank_measures : Stmt := top 107
theorem sc_rank_measures : FnScope ["study", "numbers", "row"] ["study", "numbers", "row"] (defScope s_rank_measures) := ⟨rfl, rfl, rfl, by decide +kernel, rfl, by decide +kernel, by decide +kernel⟩
theorem ok_rank_measures (T : Tx K mg az an aw d1 d2 d3 C) (h : Has K mg "rank_measures" s_rank_measures ["study", "numbers", "row"]) (O_is_ranked : Ok P w K mg base "is_ranked" 3 ["row", "least_ranks", "most_number"] (sp_is_ranked K C)) (O_numbers_of : Ok P w K mg base "numbers_of" 1 ["quotients"] (sp_numbers_of K C)) (O_average_precision : Ok P w K mg base "average_precision" 6 ["relevance"] (sp_average_precision K C)) (O_reciprocal_rank : Ok P w K mg base "reciprocal_rank" 1 ["relevance"] (sp_reciprocal_rank K C)) :
    Ok P w K mg base "rank_measures" 7 ["study", "numbers", "row"] (sp_rank_measures K C) := by
  refine ok_of h sc_rank_measures (fun vs H Q E h => ?_) (fun f cdv A outer s H vs Q E hr h => ⟨_, (pss_cons (ps_if (pt_not (pt_val (pe_go O_is_ranked (hr.mono (by decide)) (by rfl) (pa_cons (pv 2) (pa_cons pe_int (pa_cons pe_int pa_nil)))))) (pss_one (ps_ret (pe_lst (pa_cons (pe_globI (by rfl) T.m_OUTSIDE) pa_nil)))) pss_nil)
      (pss_one (ps_ret (pe_op op_cat (pe_lst (pa_cons (pe_callB (cr_sumK (K := K) rfl rfl) (by rfl) T.b_sum (by decide +kernel) (pa_cons (pv 2) pa_nil)) pa_nil)) (pe_go O_numbers_of (hr.mono (by decide)) (by rfl) (pa_cons (pe_lst (pa_cons (pe_go O_average_precision (hr.mono (by decide)) (by rfl) (pa_cons (pv 2) pa_nil)) (pa_cons (pe_go O_reciprocal_rank (hr.mono (by decide)) (by rfl) (pa_cons (pv 2) pa_nil)) pa_nil))) pa_nil)))))), ?_⟩)
  · first | (obtain ⟨_, rfl, _⟩ := h; rfl) | (obtain ⟨_, _, rfl, _⟩ := h; rfl) | (obtain ⟨_, _, _, rfl, _⟩ := h; rfl) | (obtain ⟨_, _, _, _, rfl, _⟩ := h; rfl) | (obtain ⟨_, _, _, _, _, rfl, _⟩ := h; rfl) | (obtain ⟨_, _, _, _, _, _, rfl, _⟩ := h; rfl) | (obtain ⟨_, _, _, _, _, _, _, rfl, _⟩ := h; rfl) | (obtain ⟨_, _, _, _, _, _, _, _, rfl, _⟩ := h; rfl) | (obtain ⟨_, _, _, _, _, _, _, _, _, rfl, _⟩ := h; rfl) | (obtain ⟨_, _, _, _, _, _, _, _, _, _, rfl, _⟩ := h; rfl) | (obtain ⟨_, _, _, _, _, _, _, _, _, _, _, rfl, _⟩ := h; rfl) | (obtain ⟨_, _, _, _, _, _, _, _, _, _, _, _, rfl, _⟩ := h; rfl) | (obtain ⟨_, _, _, _, _, _, _, _, _, _, _, _, _, rfl, _⟩ := h; rfl)

  · obtain ⟨L, m, nv, rv, xs, row, rfl, S, W, ⟨p, rfl, hp⟩, hrow, ok, k⟩ := h
    obtain rfl := len0 ok.len
    have kA : RetA H Q (oRank row) := deed_read S W k rfl
    unfold oRank at kA
    repeat wtm_at "lwst"
    refine ⟨rv, row, 1, 1, rfl, hrow, ?_⟩
    repeat wtm_at "lwst"
    refine cond_2 (fun c2 => ?_) (fun c2 => ?_)
    · rw [Bool.not_eq_true'] at c2
      rw [c2, if_neg (by simp)] at kA
      repeat wtm_at "lwst"
      exact ret_one kA
    rw [Bool.not_eq_false'] at c2
    rw [if_pos c2] at kA
    obtain ⟨r1, r2, r3⟩ := ranked_le c2
    obtain ⟨q, rfl, hq⟩ := id hrow
    repeat wtm_at "lwst"
    refine st_sum hq ?_
    rw [nz_sum]
    repeat wtm_at "lwst"
    refine new_l (by simp) fun p0 H2 h0n e2 h0 => ?_
    repeat wtm_at "lwst"
    refine ⟨_, row, rfl, hrow.up e2, r2, r3, fun y H3 e3 hy => ?_⟩
    repeat wtm_at "lwst"
    refine ⟨_, row, rfl, (hrow.up e2).up e3, r2, fun z H4 e4 hz => ?_⟩
    repeat wtm_at "lwst"
    refine new_l (by simp) fun p1 H5 h1n e5 h1 => ?_
    repeat wtm_at "lwst"
    refine ⟨_, [_, _], rfl, fs_two h1 ((hy.up e4).up e5) (hz.up e5), by simp, fun p2 H6 h2n e6 h2 => ?_⟩
    repeat wtm_at "lwst"
    exact cat_frs (z := [((row.sum : Nat) : Int)]) (by simp) (by simp) (e6 _ _ (e5 _ _ (e4 _ _ (e3 _ _ h0)))) h2 (kA.go ((((e2.trans e3).trans e4).trans e5).trans e6))
def sp_gains_measured (K : PySem.W.Frag) (C : Addr) : Sp := Deed K C 26
abbrev s_gains_measured : Stmt := top 108
theorem sc_gains_measured : FnScope ["study", "numbers", "row", "found"] ["study", "numbers", "row"] (defScope s_gains_measured) := ⟨rfl, rfl, rfl, by decide +kernel, rfl, by decide +kernel, by decide +kernel⟩
theorem ok_gains_measured (T : Tx K mg az an aw d1 d2 d3 C) (h : Has K mg "gains_measured" s_gains_measured ["study", "numbers", "row"]) (O_discounted_gain : Ok P w K mg base "discounted_gain" 5 ["gains"] (sp_discounted_gain K C)) (O_is_ranked : Ok P w K mg base "is_ranked" 3 ["row", "least_ranks", "most_number"] (sp_is_ranked K C)) (O_numbers_of : Ok P w K mg base "numbers_of" 1 ["quotients"] (sp_numbers_of K C)) (O_over : Ok P w K mg base "over" 3 ["one", "other"] (sp_over K C)) (O_ideal_gain : Ok P w K mg base "ideal_gain" 6 ["gains"] (sp_ideal_gain K C)) :
    Ok P w K mg base "gains_measured" 7 ["study", "numbers", "row"] (sp_gains_measured K C) := by
  refine ok_of h sc_gains_measured (fun vs H Q E h => ?_) (fun f cdv A outer s H vs Q E hr h => ⟨_, (pss_cons (ps_if (pt_not (pt_val (pe_go O_is_ranked (hr.mono (by decide)) (by rfl) (pa_cons (pv 2) (pa_cons pe_int (pa_cons (pe_globI (by rfl) T.m_MOST_GAIN) pa_nil)))))) (pss_one (ps_ret (pe_lst (pa_cons (pe_globI (by rfl) T.m_OUTSIDE) pa_nil)))) pss_nil)
      (pss_cons (ps_if (pt_cmpR op_eq (pe_callB (cr_sumK (K := K) rfl rfl) (by rfl) T.b_sum (by decide +kernel) (pa_cons (pv 2) pa_nil)) pe_int (nomark _)) (pss_one (ps_ret (pe_lst (pa_cons (pe_globI (by rfl) T.m_NOT_ENOUGH) pa_nil)))) pss_nil)
      (pss_cons (ps_set (i := 3) sc_gains_measured.nd rfl (Or.inl rfl) (pe_go O_discounted_gain (hr.mono (by decide)) (by rfl) (pa_cons (pv 2) pa_nil)))
      (pss_one (ps_ret (pe_op op_cat (pe_lst (pa_cons pe_int pa_nil)) (pe_go O_numbers_of (hr.mono (by decide)) (by rfl) (pa_cons (pe_lst (pa_cons (pv 3) (pa_cons (pe_go O_over (hr.mono (by decide)) (by rfl) (pa_cons (pv 3) (pa_cons (pe_go O_ideal_gain (hr.mono (by decide)) (by rfl) (pa_cons (pv 2) pa_nil)) pa_nil))) pa_nil))) pa_nil)))))))), ?_⟩)
  · first | (obtain ⟨_, rfl, _⟩ := h; rfl) | (obtain ⟨_, _, rfl, _⟩ := h; rfl) | (obtain ⟨_, _, _, rfl, _⟩ := h; rfl) | (obtain ⟨_, _, _, _, rfl, _⟩ := h; rfl) | (obtain ⟨_, _, _, _, _, rfl, _⟩ := h; rfl) | (obtain ⟨_, _, _, _, _, _, rfl, _⟩ := h; rfl) | (obtain ⟨_, _, _, _, _, _, _, rfl, _⟩ := h; rfl) | (obtain ⟨_, _, _, _, _, _, _, _, rfl, _⟩ := h; rfl) | (obtain ⟨_, _, _, _, _, _, _, _, _, rfl, _⟩ := h; rfl) | (obtain ⟨_, _, _, _, _, _, _, _, _, _, rfl, _⟩ := h; rfl) | (obtain ⟨_, _, _, _, _, _, _, _, _, _, _, rfl, _⟩ := h; rfl) | (obtain ⟨_, _, _, _, _, _, _, _, _, _, _, _, rfl, _⟩ := h; rfl) | (obtain ⟨_, _, _, _, _, _, _, _, _, _, _, _, _, rfl, _⟩ := h; rfl)

  · obtain ⟨L, m, nv, rv, xs, row, rfl, S, W, ⟨p, rfl, hp⟩, hrow, ok, k⟩ := h
    obtain rfl := len0 ok.len
    have kA : RetA H Q (oGains row) := deed_read S W k rfl
    unfold oGains at kA
    repeat wtm_at "lwst"
    refine ⟨rv, row, 1, 100, rfl, hrow, ?_⟩
    repeat wtm_at "lwst"
    refine cond_2 (fun c2 => ?_) (fun c2 => ?_)
    · rw [Bool.not_eq_true'] at c2
      rw [c2, if_neg (by simp)] at kA
      repeat wtm_at "lwst"
      exact ret_one kA
    rw [Bool.not_eq_false'] at c2
    rw [if_pos c2] at kA
    obtain ⟨r1, r2, r3⟩ := ranked_le c2
    obtain ⟨q, rfl, hq⟩ := id hrow
    repeat wtm_at "lwst"
    refine st_sum hq ?_
    rw [nz_sum]
    repeat wtm_at "lwst"
    refine cond_2 (fun c3 => ?_) (fun c3 => ?_)
    · have h0 : row.sum = 0 := by have := vint_eq c3; omega
      rw [if_pos h0] at kA
      repeat wtm_at "lwst"
      exact ret_one kA
    have h0 : row.sum ≠ 0 := by have := vint_ne c3; omega
    rw [if_neg h0] at kA
    have sl : (sortDown row).length ≤ 12 := by rw [sortDown_len]; exact r2
    have sm : ∀ x ∈ sortDown row, x ≤ 100 := fun x hx => r3 x (sortDown_mem hx)
    repeat wtm_at "lwst"
    refine ⟨_, row, rfl, hrow, r2, r3, fun y H1 e1 hy => ?_⟩
    repeat wtm_at "lwst"
    refine new_l (by simp) fun p0 H2 h0n e2 h0 => ?_
    repeat wtm_at "lwst"
    refine ⟨_, row, rfl, (hrow.up e1).up e2, r2, r3, fun z H3 e3 hz => ?_⟩
    repeat wtm_at "lwst"
    refine ⟨y, z, _, _, rfl, (hy.up e2).up e3, hz, (ps_disc r2 r3).all, (ps_disc sl sm).all, disc_pos (by omega), fun w H4 e4 hw => ?_⟩
    repeat wtm_at "lwst"
    refine new_l (by simp) fun p1 H5 h1n e5 h1 => ?_
    repeat wtm_at "lwst"
    refine ⟨_, [_, _], rfl, fs_two h1 (((hy.up e2).up e3).up (e4.trans e5)) (hw.up e5), by simp, fun p2 H6 h2n e6 h2 => ?_⟩
    repeat wtm_at "lwst"
    exact cat_frs (z := [0]) (by simp) (by simp) (e6 _ _ (e5 _ _ (e4 _ _ (e3 _ _ h0)))) h2 (kA.go (((((e1.trans e2).trans e3).trans e4).trans e5).trans e6))
def sp_order_measure (K : PySem.W.Frag) (C : Addr) : Sp := Deed K C 27
abbrev s_order_measure : Stmt := top 109
theorem sc_order_measure : FnScope ["study", "numbers", "row", "rising", "falling"] ["study", "numbers", "row"] (defScope s_order_measure) := ⟨rfl, rfl, rfl, by decide +kernel, rfl, by decide +kernel, by decide +kernel⟩
theorem ok_order_measure (T : Tx K mg az an aw d1 d2 d3 C) (h : Has K mg "order_measure" s_order_measure ["study", "numbers", "row"]) (O_is_ranked : Ok P w K mg base "is_ranked" 3 ["row", "least_ranks", "most_number"] (sp_is_ranked K C)) (O_rising_pairs : Ok P w K mg base "rising_pairs" 1 ["numbers"] (sp_rising_pairs K C)) (O_falling_pairs : Ok P w K mg base "falling_pairs" 2 ["numbers"] (sp_falling_pairs K C)) (O_numbers_of : Ok P w K mg base "numbers_of" 1 ["quotients"] (sp_numbers_of K C)) (O_quotient : Ok P w K mg base "quotient" 2 ["above", "below"] (sp_quotient K C)) (O_pairs_of : Ok P w K mg base "pairs_of" 1 ["many"] (sp_pairs_of K C)) :
    Ok P w K mg base "order_measure" 4 ["study", "numbers", "row"] (sp_order_measure K C) := by
  refine ok_of h sc_order_measure (fun vs H Q E h => ?_) (fun f cdv A outer s H vs Q E hr h => ⟨_, (pss_cons (ps_if (pt_not (pt_val (pe_go O_is_ranked (hr.mono (by decide)) (by rfl) (pa_cons (pv 2) (pa_cons pe_int (pa_cons (pe_globI (by rfl) T.m_MOST_RANK_NUMBER) pa_nil)))))) (pss_one (ps_ret (pe_lst (pa_cons (pe_globI (by rfl) T.m_OUTSIDE) pa_nil)))) pss_nil)
      (pss_cons (ps_par (i := 3) (j := 4) (by rfl) sc_order_measure.nd rfl rfl (by decide) rfl rfl (pa_cons (pe_go O_rising_pairs (hr.mono (by decide)) (by rfl) (pa_cons (pv 2) pa_nil)) (pa_cons (pe_go O_falling_pairs (hr.mono (by decide)) (by rfl) (pa_cons (pv 2) pa_nil)) pa_nil)) (by rfl))
      (pss_one (ps_ret (pe_op op_cat (pe_lst (pa_cons (pv 3) (pa_cons (pv 4) pa_nil))) (pe_go O_numbers_of (hr.mono (by decide)) (by rfl) (pa_cons (pe_lst (pa_cons (pe_go O_quotient (hr.mono (by decide)) (by rfl) (pa_cons (pe_op op_sub (pv 3) (pv 4)) (pa_cons (pe_go O_pairs_of (hr.mono (by decide)) (by rfl) (pa_cons (pe_callB (cb_lenK (K := K) rfl) (by rfl) T.b_len PySem.boot_len (pa_cons (pv 2) pa_nil)) pa_nil)) pa_nil))) pa_nil)) pa_nil))))))), ?_⟩)
  · first | (obtain ⟨_, rfl, _⟩ := h; rfl) | (obtain ⟨_, _, rfl, _⟩ := h; rfl) | (obtain ⟨_, _, _, rfl, _⟩ := h; rfl) | (obtain ⟨_, _, _, _, rfl, _⟩ := h; rfl) | (obtain ⟨_, _, _, _, _, rfl, _⟩ := h; rfl) | (obtain ⟨_, _, _, _, _, _, rfl, _⟩ := h; rfl) | (obtain ⟨_, _, _, _, _, _, _, rfl, _⟩ := h; rfl) | (obtain ⟨_, _, _, _, _, _, _, _, rfl, _⟩ := h; rfl) | (obtain ⟨_, _, _, _, _, _, _, _, _, rfl, _⟩ := h; rfl) | (obtain ⟨_, _, _, _, _, _, _, _, _, _, rfl, _⟩ := h; rfl) | (obtain ⟨_, _, _, _, _, _, _, _, _, _, _, rfl, _⟩ := h; rfl) | (obtain ⟨_, _, _, _, _, _, _, _, _, _, _, _, rfl, _⟩ := h; rfl) | (obtain ⟨_, _, _, _, _, _, _, _, _, _, _, _, _, rfl, _⟩ := h; rfl)

  · obtain ⟨L, m, nv, rv, xs, row, rfl, S, W, ⟨p, rfl, hp⟩, hrow, ok, k⟩ := h
    obtain rfl := len0 ok.len
    have kA : RetA H Q (oOrder row) := deed_read S W k rfl
    unfold oOrder at kA
    repeat wtm_at "lwst"
    refine ⟨rv, row, 2, 1000, rfl, hrow, ?_⟩
    repeat wtm_at "lwst"
    refine cond_2 (fun c2 => ?_) (fun c2 => ?_)
    · rw [Bool.not_eq_true'] at c2
      rw [c2, if_neg (by simp)] at kA
      repeat wtm_at "lwst"
      exact ret_one kA
    rw [Bool.not_eq_false'] at c2
    rw [if_pos c2] at kA
    obtain ⟨r1, r2, r3⟩ := ranked_le c2
    obtain ⟨q, rfl, hq⟩ := id hrow
    have n2 : 0 < row.length * (row.length - 1) / 2 := by
      have h1 : 2 * 1 ≤ row.length * (row.length - 1) := Nat.mul_le_mul r1 (by omega)
      omega
    have n9 : (row.length * (row.length - 1) / 2).log2 < 9000 := by
      have h1 : row.length * (row.length - 1) ≤ 12 * 11 := Nat.mul_le_mul r2 (by omega)
      exact Nat.lt_of_le_of_lt (log2_mono (show row.length * (row.length - 1) / 2 ≤ 66 by omega)) (by decide)
    repeat wtm_at "lwst"
    refine ⟨_, row, rfl, hrow, r2, ?_⟩
    repeat wtm_at "lwst"
    refine ⟨_, row, rfl, hrow, r2, fun H1 e1 => ?_⟩
    repeat wtm_at "lwst"
    refine new_l (by simp) fun p0 H2 h0n e2 h0 => ?_
    repeat wtm_at "lwst"
    refine st_len (sqL_up (e1.trans e2) hq) ?_
    rw [nzV_len]
    repeat wtm_at "lwst"
    refine ⟨row.length, rfl, by omega, r2, ?_⟩
    repeat wtm_at "lwst"
    refine mk_go n2 n9 fun y H3 e3 hy => ?_
    repeat wtm_at "lwst"
    refine new_l (by simp) fun p1 H4 h1n e4 h1 => ?_
    repeat wtm_at "lwst"
    refine ⟨_, [_], rfl, fs_one h1 (hy.up e4), by simp, fun p2 H5 h2n e5 h2 => ?_⟩
    repeat wtm_at "lwst"
    exact cat_frs (z := [((rising row : Nat) : Int), ((rising row.reverse : Nat) : Int)]) (by simp) (by simp) (e5 _ _ (e4 _ _ (e3 _ _ h0))) h2 (kA.go ((((e1.trans e2).trans e3).trans e4).trans e5))
end
end Lw

namespace Lw
open PySem PySem.Spec PyProof.Rows L2
local macro_rules | `(tactic| wtm_at "lwsame") => `(tactic| first
  | assumption | exact Same.refl _ | (refine Same.trans (by assumption) ?_; wtm_at "lwsame"))
local macro_rules | `(tactic| wtm_at "lwup") => `(tactic| first
  | assumption
  | ((with_reducible show SqT _ _ _ _); first | (refine sqT_up ?_ (by assumption); wtm_at "lwsame") | (refine KT.sq ?_ _; assumption) | (refine SqT.of ?_; wtm_at "lwup"))
  | ((with_reducible show SqL _ _ _ _); first | (refine sqL_up ?_ (by assumption); wtm_at "lwsame") | (refine SqL.of ?_; wtm_at "lwup"))
  | ((with_reducible show _ = some _); refine (show Same _ _ by wtm_at "lwsame") _ _ (by assumption))
  | ((with_reducible show Fq _ _ _ _); refine Fq.up ?_ (by assumption); wtm_at "lwsame")
  | ((with_reducible show Fs _ _ _ _); refine Fs.up ?_ (by assumption); wtm_at "lwsame")
  | ((with_reducible show Is _ _ _ _); refine Is.up ?_ (by assumption); wtm_at "lwsame")
  | ((with_reducible show Ns _ _ _ _); refine Ns.up ?_ (by assumption); wtm_at "lwsame")
  | ((with_reducible show Eq4 _ _ _ _); refine Eq4.up ?_ (by assumption); wtm_at "lwsame")
  | ((with_reducible show Evs _ _ _ _); refine Evs.up ?_ (by assumption); wtm_at "lwsame"))
local macro_rules | `(tactic| wtm_at "lwst2") => `(tactic| first
  | (with_reducible refine st_drop ?_)
  | (with_reducible refine st_par ?_)
  | (with_reducible refine st_par2 ?_)
  | (with_reducible refine st_un ?_)
  | (with_reducible refine st_rU ?_)
  | (with_reducible refine st_B ?_)
  | (with_reducible refine st_not ?_)
  | (with_reducible refine st_and ?_)
  | (with_reducible refine st_or ?_)
  | (with_reducible refine st_andV ?_)
  | (with_reducible refine st_orV ?_)
  | (with_reducible refine st_isB2 ?_)
  | (with_reducible refine st_ifE ?_)
  | (with_reducible refine st_yes ?_)
  | (with_reducible refine st_forL ?_)
  | (with_reducible refine st_forR ?_)
  | (with_reducible refine st_lcL ?_)
  | (with_reducible refine st_lcR ?_)
  | (with_reducible refine st_lcZ ?_)
  | (with_reducible refine st_bm ?_)
  | (with_reducible refine st_sfld ?_)
  | (with_reducible refine st_gsub ?_)
  | (with_reducible refine st_meth ?_)
  | (with_reducible refine st_sl ?_)
  | (with_reducible refine st_nopart ?_)
  | (with_reducible refine st_part ?_)
  | (with_reducible refine st_isI ?_)
  | (with_reducible refine st_rev ?_)
  | (with_reducible refine st_ckw ?_)
  | (with_reducible refine st_abs ?_)
  | ((with_reducible refine st_eq ?hh ?_); (case hh => exact rfl))
  | ((with_reducible refine st_ne ?hh ?_); (case hh => exact rfl))
  | ((with_reducible refine st_ixT (v := ?vv) (xs := ?xx) ?hh ?hi ?_); (case hh => wtm_at "lwup"); (case hi => exact rfl))
  | ((with_reducible refine st_gtup (xs := ?xx) ?hh ?hi ?_); (case hh => wtm_at "lwup"); (case hi => exact rfl)))
local macro_rules | `(tactic| wtm_at "lwst") => `(tactic| first
  | (with_reducible refine st_cons ?_)
  | ((with_reducible refine st_var (v := ?vv) ?hh ?_); (case hh => exact rfl))
  | (with_reducible refine st_nil ?_)
  | (with_reducible refine st_call ?_)
  | (with_reducible refine st_gname ?_)
  | (with_reducible refine st_c ?_)
  | (with_reducible refine st_seq ?_)
  | (with_reducible refine st_op ?_)
  | (with_reducible refine st_ret ?_)
  | (with_reducible refine st_lst ?_)
  | (with_reducible refine st_gcons ?_)
  | (with_reducible refine st_asg ?_)
  | (with_reducible refine st_isB ?_)
  | (with_reducible refine st_ifS ?_)
  | (with_reducible refine st_nx0 ?_)
  | (with_reducible refine st_test ?_)
  | (with_reducible refine st_fld ?_)
  | (with_reducible refine st_nx ?_)
  | (with_reducible refine st_rI0 ?_)
  | (with_reducible refine st_callB ?_)
  | (with_reducible refine st_gnil ?_)
  | (with_reducible refine st_tup ?_)
  | wtm_at "lwst2")

/-! ## Writing the study -/
theorem sqT_upd {K : PySem.W.Frag} {H : Hp} {a l : Addr} {xs : List V} {o : HO} (mu : Mut (H l)) (h : SqT K H a xs) : SqT K (upd H l o) a xs := by
  have ne : ∀ u, H a = some u → ¬ Mut (some u) → a ≠ l := fun u e n z => by
    subst z
    rw [e] at mu
    exact n mu
  rcases h with (h | ⟨ob, h⟩) | h
  · exact .inl (.inl (by rw [upd_ne (ne _ h fun z => z)]; exact h))
  · exact .inl (.inr ⟨ob, by rw [upd_ne (ne _ h fun z => z)]; exact h⟩)
  · exact .inr h
section
variable {K : PySem.W.Frag} {C : Addr} {H : Hp} {L : Lay} {m : M} {v : V} {b p : Addr} {o : HO} {F : List Addr}
theorem upd_out (hb : b ∈ F) (hp : p ∉ F) : upd H b o p = H p := upd_ne (fun e => hp (by rw [e]; exact hb))
theorem fq_upd {r : Rw} (mu : Mut (H b)) (h : Fq K H v r) : Fq K (upd H b o) v r :=
  let ⟨p, x, y⟩ := h
  ⟨p, x, sqT_upd mu y⟩
theorem eq4_upd {e : Ev} (mu : Mut (H b)) (h : Eq4 K H v e) : Eq4 K (upd H b o) v e :=
  let ⟨p, q, x, y, z⟩ := h
  ⟨p, q, x, sqT_upd mu y, fq_upd mu z⟩
theorem rn_upd {ns : List Nat} (hb : b ∈ F) (h : Rn F H v ns) : Rn F (upd H b o) v ns :=
  let ⟨p, x, y, z⟩ := h
  ⟨p, x, y, by rw [upd_out hb y]; exact z⟩
theorem rq_upd {rs : List Rw} (hb : b ∈ F) (mu : Mut (H b)) (h : Rq K F H v rs) : Rq K F (upd H b o) v rs :=
  let ⟨p, xs, x, y, z, t⟩ := h
  ⟨p, xs, x, y, by rw [upd_out hb y]; exact z, t.imp fun _ _ q => fq_upd mu q⟩
theorem pl_upd {P : List (List Nat)} (hb : b ∈ F) (ne : p ≠ b) (h : Pl F H p P) : Pl F (upd H b o) p P :=
  let ⟨xs, x, y⟩ := h
  ⟨xs, by rw [upd_ne ne]; exact x, y.imp fun _ _ q => rn_upd hb q⟩
theorem all2_mem {α β : Type} {R S : α → β → Prop} : ∀ {l : List α} {m : List β}, All2 R l m → (∀ a ∈ l, ∀ b, R a b → S a b) → All2 S l m
  | _, _, .nil, _ => .nil
  | _, _, .cons h t, f => .cons (f _ List.mem_cons_self _ h) (all2_mem t fun a ha b r => f a (List.mem_cons_of_mem _ ha) b r)
/-- the places apart -/
structure Apart (L : Lay) : Prop where
  a_po : L.a ≠ L.po
  a_mo : L.a ≠ L.mo
  a_tw : L.a ≠ L.tw
  a_tr : L.a ≠ L.tr
  po_mo : L.po ≠ L.mo
  po_tw : L.po ≠ L.tw
  po_tr : L.po ≠ L.tr
  mo_tw : L.mo ≠ L.tw
  mo_tr : L.mo ≠ L.tr
  tw_tr : L.tw ≠ L.tr
  ps_a : ∀ p ∈ L.ps, p ≠ L.a
  ps_po : ∀ p ∈ L.ps, p ≠ L.po
  ps_mo : ∀ p ∈ L.ps, p ≠ L.mo
  ps_tw : ∀ p ∈ L.ps, p ≠ L.tw
  ps_tr : ∀ p ∈ L.ps, p ≠ L.tr
  ps : L.ps.Nodup
theorem St.ap (S : St K C H L m) : Apart L := by
  have nd := S.nd
  unfold Lay.F at nd
  simp only [List.nodup_cons, List.mem_cons, not_or] at nd
  obtain ⟨⟨h1, h2, h3, h4, h5⟩, ⟨h6, h7, h8, h9⟩, ⟨h10, h11, h12⟩, ⟨h13, h14⟩, h15, h16⟩ := nd
  exact ⟨h1, h2, h3, h4, h6, h7, h8, h10, h11, h13, fun p hp e => h5 (by rw [← e]; exact hp), fun p hp e => h9 (by rw [← e]; exact hp), fun p hp e => h12 (by rw [← e]; exact hp), fun p hp e => h14 (by rw [← e]; exact hp), fun p hp e => h15 (by rw [← e]; exact hp), h16⟩
theorem in_a : L.a ∈ L.F := by unfold Lay.F; simp
theorem in_po : L.po ∈ L.F := by unfold Lay.F; simp
theorem in_mo : L.mo ∈ L.F := by unfold Lay.F; simp
theorem in_tw : L.tw ∈ L.F := by unfold Lay.F; simp
theorem in_tr : L.tr ∈ L.F := by unfold Lay.F; simp
theorem in_ps (h : p ∈ L.ps) : p ∈ L.F := by unfold Lay.F; simp [h]
theorem F_cases (h : b ∈ L.F) : b = L.a ∨ b = L.po ∨ b = L.mo ∨ b = L.tw ∨ b = L.tr ∨ b ∈ L.ps := by
  unfold Lay.F at h
  simpa using h
/-- what may be written is known and may be -/
theorem St.known (S : St K C H L m) (h : b ∈ L.F) : ∃ u, H b = some u ∧ Mut (some u) := by
  rcases F_cases h with rfl | rfl | rfl | rfl | rfl | h
  · exact ⟨_, S.at_, trivial⟩
  · exact ⟨_, S.po, trivial⟩
  · obtain ⟨xs, x, _⟩ := S.mo
    exact ⟨_, x, trivial⟩
  · exact ⟨_, S.tw, trivial⟩
  · obtain ⟨xs, x, _⟩ := S.tr
    exact ⟨_, x, trivial⟩
  · obtain ⟨i, hi⟩ := List.mem_iff_getElem?.mp h
    obtain ⟨P, _, xs, x, _⟩ := S.ps.get hi
    exact ⟨_, x, trivial⟩
theorem St.mu (S : St K C H L m) (h : b ∈ L.F) : Mut (H b) := by
  obtain ⟨u, e, h2⟩ := S.known h
  rw [e]
  exact h2
theorem St.fresh (S : St K C H L m) (h : H b = none) : b ∉ L.F := fun z => by
  obtain ⟨u, e, _⟩ := S.known z
  rw [e] at h
  cases h
theorem keep_upd {H1 : Hp} (e : Same H H1) (hb : b ∈ L.F) {L' : Lay} (ha : L'.a = L.a) (hF : L'.F = L.F) : Keep L H L' (upd H1 b o) :=
  ⟨ha, fun c u h hc => by rw [upd_out hb hc]; exact e _ _ h, fun c h => .inl (by rw [← hF]; exact h), fun c h => e.free (by
    unfold upd at h
    split at h
    · cases h
    · exact h)⟩
theorem Keep.trans {L1 L2 : Lay} {H1 H2 : Hp} (k1 : Keep L H L1 H1) (k2 : Keep L1 H1 L2 H2) : Keep L H L2 H2 := by
  refine ⟨k2.a.trans k1.a, fun b o h hb => k2.old b o (k1.old b o h hb) fun z => ?_, fun b h => ?_, fun b h => k1.dom b (k2.dom b h)⟩
  · rcases k1.new b z with h1 | h1
    · exact hb h1
    · rw [h] at h1
      cases h1
  · rcases k2.new b h with h1 | h1
    · exact k1.new b h1
    · by_cases hb : b ∈ L.F
      · exact .inl hb
      · refine .inr ?_
        cases q : H b with
        | none => rfl
        | some u =>
          rw [k1.old b u q hb] at h1
          cases h1
/-! ### one lemma a store -/
theorem put_events (L : Lay) (m : M) (nl : Addr) (es : List Ev) : putF "events" (.ref nl) (flds L m) = flds { L with ev := nl } { m with ev := es } :=
  (put_past (by decide +kernel)).trans (congrArg _ ((put_past (by decide +kernel)).trans (congrArg _ put_here)))
theorem sta_ev (S : St K C H L m) {nl : Addr} {ys : List V} {es : List Ev} (h1 : H nl = some (.lst ys)) (h2 : All2 (Eq4 K H) ys es) (h3 : nl ∉ L.F) :
    St K C (upd H L.a (.ins C L.dx (putF "events" (.ref nl) (flds L m)))) { L with ev := nl } { m with ev := es } := by
  have A := S.ap
  have mu := S.mu in_a
  refine ⟨by rw [put_events L m nl es]; exact upd_same, h3, ⟨ys, by rw [upd_out in_a h3]; exact h1, h2.imp fun _ _ q => eq4_upd mu q⟩, by rw [upd_ne A.a_po.symm]; exact S.po,
    all2_mem S.ps fun p hp P q => pl_upd in_a (A.ps_a p hp) q, ?_, by rw [upd_ne A.a_tw.symm]; exact S.tw, ?_, S.nd⟩
  · obtain ⟨xs, x, y⟩ := S.mo
    exact ⟨xs, by rw [upd_ne A.a_mo.symm]; exact x, y.imp fun _ _ q => rq_upd in_a mu q⟩
  · obtain ⟨xs, x, y⟩ := S.tr
    exact ⟨xs, by rw [upd_ne A.a_tr.symm]; exact x, y.imp fun _ _ q => rn_upd in_a q⟩
theorem sta_wt (S : St K C H L m) {k c : Nat} {xs : List V} {r : Addr} {row : List Nat} (hk : L.ps[k]? = some p) (hx : H p = some (.lst xs)) (h1 : H r = some (.lst ((nz row).map V.int))) (h3 : r ∉ L.F) :
    St K C (upd H p (.lst (xs.set c (.ref r)))) L { m with pol := m.pol.set k ((m.pol.getD k []).set c row) } := by
  have A := S.ap
  have hp : p ∈ L.ps := List.mem_of_getElem? hk
  have hF : p ∈ L.F := in_ps hp
  have mu := S.mu hF
  obtain ⟨P, hP, xs', hx', hr⟩ := S.ps.get hk
  rw [hx] at hx'
  cases hx'
  have eP : m.pol.getD k [] = P := by rw [List.getD_eq_getElem?_getD, hP, Option.getD_some]
  refine ⟨by rw [upd_ne (A.ps_a p hp).symm]; exact S.at_, S.evF, ?_, by rw [upd_ne (A.ps_po p hp).symm]; exact S.po, ?_, ?_, by rw [upd_ne (A.ps_tw p hp).symm]; exact S.tw, ?_, S.nd⟩
  · obtain ⟨ys, x, y⟩ := S.ev
    exact ⟨ys, by rw [upd_out hF S.evF]; exact x, y.imp fun _ _ q => eq4_upd mu q⟩
  · have hnew : Pl L.F (upd H p (.lst (xs.set c (.ref r)))) p (P.set c row) :=
      ⟨_, upd_same, All2.set (R := Rn L.F (upd H p (.lst (xs.set c (.ref r))))) ⟨r, rfl, h3, by rw [upd_out hF h3]; exact h1⟩ c (hr.imp fun _ _ q => rn_upd hF q)⟩
    show All2 _ L.ps (m.pol.set k ((m.pol.getD k []).set c row))
    rw [eP]
    -- item by item: the one at k is new, the others stand
    have go : ∀ (l : List Addr) (ms : List (List (List Nat))) (k : Nat), l.Nodup → l[k]? = some p → All2 (Pl L.F H) l ms → All2 (Pl L.F (upd H p (.lst (xs.set c (.ref r))))) l (ms.set k (P.set c row)) := by
      intro l
      induction l with
      | nil => intro ms k _ h _; simp at h
      | cons x l ih =>
        intro ms k nd h al
        cases al with
        | cons hd tl =>
          cases k with
          | zero =>
            obtain rfl := Option.some.inj h
            refine .cons hnew (all2_mem tl fun a ha b q => pl_upd hF (fun z => ?_) q)
            subst z
            exact (List.nodup_cons.mp nd).1 ha
          | succ k =>
            have h' : l[k]? = some p := h
            refine .cons (pl_upd hF (fun z => ?_) hd) (ih _ k (List.nodup_cons.mp nd).2 h' tl)
            subst z
            exact (List.nodup_cons.mp nd).1 (List.mem_of_getElem? h')
    exact go L.ps m.pol k A.ps hk S.ps
  · obtain ⟨ys, x, y⟩ := S.mo
    exact ⟨ys, by rw [upd_ne (A.ps_mo p hp).symm]; exact x, y.imp fun _ _ q => rq_upd hF mu q⟩
  · obtain ⟨ys, x, y⟩ := S.tr
    exact ⟨ys, by rw [upd_ne (A.ps_tr p hp).symm]; exact x, y.imp fun _ _ q => rn_upd hF q⟩
theorem sta_mo (S : St K C H L m) {c : Nat} {xs ys : List V} {r : Addr} {rs : List Rw} (hx : H L.mo = some (.lst xs)) (h1 : H r = some (.lst ys)) (h2 : All2 (Fq K H) ys rs) (h3 : r ∉ L.F) :
    St K C (upd H L.mo (.lst (xs.set c (.ref r)))) L { m with mo := m.mo.set c rs } := by
  have A := S.ap
  have mu := S.mu in_mo
  obtain ⟨xs', hx', hr⟩ := S.mo
  rw [hx] at hx'
  cases hx'
  refine ⟨by rw [upd_ne A.a_mo]; exact S.at_, S.evF, ?_, by rw [upd_ne A.po_mo]; exact S.po, all2_mem S.ps fun p hp P q => pl_upd in_mo (A.ps_mo p hp) q,
    ⟨_, upd_same, All2.set (R := Rq K L.F (upd H L.mo (.lst (xs.set c (.ref r))))) ⟨r, ys, rfl, h3, by rw [upd_out in_mo h3]; exact h1, h2.imp fun _ _ q => fq_upd mu q⟩ c (hr.imp fun _ _ q => rq_upd in_mo mu q)⟩,
    by rw [upd_ne A.mo_tw.symm]; exact S.tw, ?_, S.nd⟩
  · obtain ⟨zs, x, y⟩ := S.ev
    exact ⟨zs, by rw [upd_out in_mo S.evF]; exact x, y.imp fun _ _ q => eq4_upd mu q⟩
  · obtain ⟨zs, x, y⟩ := S.tr
    exact ⟨zs, by rw [upd_ne A.mo_tr.symm]; exact x, y.imp fun _ _ q => rn_upd in_mo q⟩
theorem sta_tw (S : St K C H L m) {c w : Nat} : St K C (upd H L.tw (.lst (((nz m.tw).map V.int).set c (.int (w : Int))))) L { m with tw := m.tw.set c w } := by
  have A := S.ap
  have mu := S.mu in_tw
  refine ⟨by rw [upd_ne A.a_tw]; exact S.at_, S.evF, ?_, by rw [upd_ne A.po_tw]; exact S.po, all2_mem S.ps fun p hp P q => pl_upd in_tw (A.ps_tw p hp) q, ?_, ?_, ?_, S.nd⟩
  · obtain ⟨zs, x, y⟩ := S.ev
    exact ⟨zs, by rw [upd_out in_tw S.evF]; exact x, y.imp fun _ _ q => eq4_upd mu q⟩
  · obtain ⟨zs, x, y⟩ := S.mo
    exact ⟨zs, by rw [upd_ne A.mo_tw]; exact x, y.imp fun _ _ q => rq_upd in_tw mu q⟩
  · rw [upd_same]
    show _ = some (HO.lst ((nz (m.tw.set c w)).map V.int))
    unfold nz
    rw [List.map_set, List.map_set]
  · obtain ⟨zs, x, y⟩ := S.tr
    exact ⟨zs, by rw [upd_ne A.tw_tr.symm]; exact x, y.imp fun _ _ q => rn_upd in_tw q⟩
theorem sta_tr (S : St K C H L m) {c : Nat} {xs : List V} {r : Addr} {row : List Nat} (hx : H L.tr = some (.lst xs)) (h1 : H r = some (.lst ((nz row).map V.int))) (h3 : r ∉ L.F) :
    St K C (upd H L.tr (.lst (xs.set c (.ref r)))) L { m with tr := m.tr.set c row } := by
  have A := S.ap
  have mu := S.mu in_tr
  obtain ⟨xs', hx', hr⟩ := S.tr
  rw [hx] at hx'
  cases hx'
  refine ⟨by rw [upd_ne A.a_tr]; exact S.at_, S.evF, ?_, by rw [upd_ne A.po_tr]; exact S.po, all2_mem S.ps fun p hp P q => pl_upd in_tr (A.ps_tr p hp) q, ?_, by rw [upd_ne A.tw_tr]; exact S.tw,
    ⟨_, upd_same, All2.set (R := Rn L.F (upd H L.tr (.lst (xs.set c (.ref r))))) ⟨r, rfl, h3, by rw [upd_out in_tr h3]; exact h1⟩ c (hr.imp fun _ _ q => rn_upd in_tr q)⟩, S.nd⟩
  · obtain ⟨zs, x, y⟩ := S.ev
    exact ⟨zs, by rw [upd_out in_tr S.evF]; exact x, y.imp fun _ _ q => eq4_upd mu q⟩
  · obtain ⟨zs, x, y⟩ := S.mo
    exact ⟨zs, by rw [upd_ne A.mo_tr]; exact x, y.imp fun _ _ q => rq_upd in_tr mu q⟩
/-- a new policy's list in the place of another's -/
theorem sta_po {H1 : Hp} (S : St K C H L m) (e : Same H H1) {b : Nat} {np : Addr} {P : List (List Nat)} {ys : List V} (hb : b < L.ps.length) (hn : H np = none) (h1 : H1 np = some (.lst ys)) (h2 : All2 (fun v ns => ∃ p, v = .ref p ∧ p ≠ np ∧ p ∉ L.F ∧ H1 p = some (.lst ((nz ns).map V.int))) ys P) :
    St K C (upd H1 L.po (.lst ((L.ps.set b np).map V.ref))) { L with ps := L.ps.set b np } { m with pol := m.pol.set b P } ∧ Keep L H { L with ps := L.ps.set b np } (upd H1 L.po (.lst ((L.ps.set b np).map V.ref))) := by
  have A := S.ap
  have nF := S.fresh hn
  have mF : ∀ c, c ∈ ({ L with ps := L.ps.set b np } : Lay).F → c ∈ L.F ∨ c = np := fun c hc => by
    rcases F_cases hc with h | h | h | h | h | h
    · exact .inl (by rw [h]; exact in_a)
    · exact .inl (by rw [h]; exact in_po)
    · exact .inl (by rw [h]; exact in_mo)
    · exact .inl (by rw [h]; exact in_tw)
    · exact .inl (by rw [h]; exact in_tr)
    · rcases List.mem_or_eq_of_mem_set h with h | h
      · exact .inl (in_ps h)
      · exact .inr h
  have rF : ∀ (v : V) (ns : List Nat), Rn L.F H v ns → Rn ({ L with ps := L.ps.set b np } : Lay).F H1 v ns := fun v ns ⟨p, x, y, z⟩ =>
    ⟨p, x, fun hm => (mF p hm).elim y fun h => (by rw [h, hn] at z; cases z), e _ _ z⟩
  have qF : ∀ (v : V) (rs : List Rw), Rq K L.F H v rs → Rq K ({ L with ps := L.ps.set b np } : Lay).F H1 v rs := fun v rs ⟨p, xs, x, y, z, t⟩ =>
    ⟨p, xs, x, fun hm => (mF p hm).elim y fun h => (by rw [h, hn] at z; cases z), e _ _ z, t.imp fun _ _ q => q.up e⟩
  have mu : Mut (H1 L.po) := by rw [e _ _ S.po]; trivial
  have npo : np ≠ L.po := fun z => nF (by rw [z]; exact in_po)
  have ipo : L.po ∈ ({ L with ps := L.ps.set b np } : Lay).F := in_po (L := { L with ps := L.ps.set b np })
  refine ⟨⟨by rw [upd_ne A.a_po]; exact e _ _ S.at_, fun h => ?_, ?_, upd_same, ?_, ?_, by rw [upd_ne A.po_tw.symm]; exact e _ _ S.tw, ?_, ?_⟩, rfl, fun c u h hc => by rw [upd_out in_po hc]; exact e _ _ h, fun c h => (mF c h).imp_right fun h => (by rw [h]; exact hn), fun c h => e.free (by
    unfold upd at h
    split at h
    · cases h
    · exact h)⟩
  · rcases mF _ h with h | h
    · exact S.evF h
    · obtain ⟨zs, x, _⟩ := S.ev
      rw [show L.ev = np from h, hn] at x
      cases x
  · obtain ⟨zs, x, y⟩ := S.ev
    exact ⟨zs, by rw [upd_out in_po S.evF]; exact e _ _ x, y.imp fun _ _ q => eq4_upd mu (q.up e)⟩
  · have old : All2 (Pl ({ L with ps := L.ps.set b np } : Lay).F (upd H1 L.po (.lst ((L.ps.set b np).map V.ref)))) L.ps m.pol :=
      all2_mem S.ps fun p hp P q => let ⟨xs, x, y⟩ := q; ⟨xs, by rw [upd_ne (A.ps_po p hp)]; exact e _ _ x, y.imp fun v ns q => rn_upd ipo (rF v ns q)⟩
    refine old.set ⟨ys, by rw [upd_ne npo]; exact h1, h2.imp fun v ns ⟨p, x, y, z, t⟩ => rn_upd ipo ⟨p, x, fun hm => (mF p hm).elim z y, t⟩⟩ b
  · obtain ⟨zs, x, y⟩ := S.mo
    exact ⟨zs, by rw [upd_ne A.po_mo.symm]; exact e _ _ x, y.imp fun v rs q => rq_upd ipo mu (qF v rs q)⟩
  · obtain ⟨zs, x, y⟩ := S.tr
    exact ⟨zs, by rw [upd_ne A.po_tr.symm]; exact e _ _ x, y.imp fun v ns q => rn_upd ipo (rF v ns q)⟩
  · have nd := S.nd
    unfold Lay.F at nd ⊢
    simp only [List.nodup_cons, List.mem_cons, not_or] at nd ⊢
    have notin : ∀ c, c ∈ L.F → c ∉ L.ps → c ∉ L.ps.set b np := fun c hc h1 h2 => by
      rcases List.mem_or_eq_of_mem_set h2 with h | h
      · exact h1 h
      · exact nF (by rw [← h]; exact hc)
    obtain ⟨⟨h1, h2, h3, h4, h5⟩, ⟨h6, h7, h8, h9⟩, ⟨h10, h11, h12⟩, ⟨h13, h14⟩, h15, h16⟩ := nd
    refine ⟨⟨h1, h2, h3, h4, notin _ in_a h5⟩, ⟨h6, h7, h8, notin _ in_po h9⟩, ⟨h10, h11, notin _ in_mo h12⟩, ⟨h13, notin _ in_tw h14⟩, notin _ in_tr h15, ?_⟩
    have nps : np ∉ L.ps := fun z => nF (in_ps z)
    -- a list without repeats keeps that when a new item takes a place
    have go : ∀ (l : List Addr) (b : Nat), l.Nodup → np ∉ l → (l.set b np).Nodup := by
      intro l
      induction l with
      | nil => intro b h _; exact h
      | cons x l ih =>
        intro b h hn
        have h' := List.nodup_cons.mp h
        cases b with
        | zero => exact List.nodup_cons.mpr ⟨fun z => hn (List.mem_cons_of_mem _ z), h'.2⟩
        | succ b =>
          refine List.nodup_cons.mpr ⟨fun z => ?_, ih b h'.2 fun z => hn (List.mem_cons_of_mem _ z)⟩
          rcases List.mem_or_eq_of_mem_set z with h | h
          · exact h'.1 h
          · exact hn (by rw [← h]; exact List.mem_cons_self)
    exact go L.ps b h16 nps
end
end Lw

namespace Lw
open PySem PySem.Spec PyProof.Rows L2
local macro_rules | `(tactic| wtm_at "lwsame") => `(tactic| first
  | assumption | exact Same.refl _ | (refine Same.trans (by assumption) ?_; wtm_at "lwsame"))
local macro_rules | `(tactic| wtm_at "lwup") => `(tactic| first
  | assumption
  | ((with_reducible show SqT _ _ _ _); first | (refine sqT_up ?_ (by assumption); wtm_at "lwsame") | (refine KT.sq ?_ _; assumption) | (refine SqT.of ?_; wtm_at "lwup"))
  | ((with_reducible show SqL _ _ _ _); first | (refine sqL_up ?_ (by assumption); wtm_at "lwsame") | (refine SqL.of ?_; wtm_at "lwup"))
  | ((with_reducible show _ = some _); refine (show Same _ _ by wtm_at "lwsame") _ _ (by assumption))
  | ((with_reducible show Fq _ _ _ _); refine Fq.up ?_ (by assumption); wtm_at "lwsame")
  | ((with_reducible show Fs _ _ _ _); refine Fs.up ?_ (by assumption); wtm_at "lwsame")
  | ((with_reducible show Is _ _ _ _); refine Is.up ?_ (by assumption); wtm_at "lwsame")
  | ((with_reducible show Ns _ _ _ _); refine Ns.up ?_ (by assumption); wtm_at "lwsame")
  | ((with_reducible show Eq4 _ _ _ _); refine Eq4.up ?_ (by assumption); wtm_at "lwsame")
  | ((with_reducible show Evs _ _ _ _); refine Evs.up ?_ (by assumption); wtm_at "lwsame"))
local macro_rules | `(tactic| wtm_at "lwst2") => `(tactic| first
  | (with_reducible refine st_drop ?_)
  | (with_reducible refine st_par ?_)
  | (with_reducible refine st_par2 ?_)
  | (with_reducible refine st_un ?_)
  | (with_reducible refine st_rU ?_)
  | (with_reducible refine st_B ?_)
  | (with_reducible refine st_not ?_)
  | (with_reducible refine st_and ?_)
  | (with_reducible refine st_or ?_)
  | (with_reducible refine st_andV ?_)
  | (with_reducible refine st_orV ?_)
  | (with_reducible refine st_isB2 ?_)
  | (with_reducible refine st_ifE ?_)
  | (with_reducible refine st_yes ?_)
  | (with_reducible refine st_forL ?_)
  | (with_reducible refine st_forR ?_)
  | (with_reducible refine st_lcL ?_)
  | (with_reducible refine st_lcR ?_)
  | (with_reducible refine st_lcZ ?_)
  | (with_reducible refine st_bm ?_)
  | (with_reducible refine st_sfld ?_)
  | (with_reducible refine st_gsub ?_)
  | (with_reducible refine st_meth ?_)
  | (with_reducible refine st_sl ?_)
  | (with_reducible refine st_nopart ?_)
  | (with_reducible refine st_part ?_)
  | (with_reducible refine st_isI ?_)
  | (with_reducible refine st_rev ?_)
  | (with_reducible refine st_ckw ?_)
  | (with_reducible refine st_abs ?_)
  | ((with_reducible refine st_eq ?hh ?_); (case hh => exact rfl))
  | ((with_reducible refine st_ne ?hh ?_); (case hh => exact rfl))
  | ((with_reducible refine st_ixT (v := ?vv) (xs := ?xx) ?hh ?hi ?_); (case hh => wtm_at "lwup"); (case hi => exact rfl))
  | ((with_reducible refine st_gtup (xs := ?xx) ?hh ?hi ?_); (case hh => wtm_at "lwup"); (case hi => exact rfl)))
local macro_rules | `(tactic| wtm_at "lwst") => `(tactic| first
  | (with_reducible refine st_cons ?_)
  | ((with_reducible refine st_var (v := ?vv) ?hh ?_); (case hh => exact rfl))
  | (with_reducible refine st_nil ?_)
  | (with_reducible refine st_call ?_)
  | (with_reducible refine st_gname ?_)
  | (with_reducible refine st_c ?_)
  | (with_reducible refine st_seq ?_)
  | (with_reducible refine st_op ?_)
  | (with_reducible refine st_ret ?_)
  | (with_reducible refine st_lst ?_)
  | (with_reducible refine st_gcons ?_)
  | (with_reducible refine st_asg ?_)
  | (with_reducible refine st_isB ?_)
  | (with_reducible refine st_ifS ?_)
  | (with_reducible refine st_nx0 ?_)
  | (with_reducible refine st_test ?_)
  | (with_reducible refine st_fld ?_)
  | (with_reducible refine st_nx ?_)
  | (with_reducible refine st_rI0 ?_)
  | (with_reducible refine st_callB ?_)
  | (with_reducible refine st_gnil ?_)
  | (with_reducible refine st_tup ?_)
  | wtm_at "lwst2")

section
variable {P : Program} {w : World} {K : PySem.W.Frag} {mg : Str → Option Value} {base : Heap} {az an aw d1 d2 d3 C : Addr}

theorem flds_len (L : Lay) (m : M) : (flds L m).length < 1000 := by show 7 < 1000; decide
theorem go_sfld {H : Hp} {L : Lay} {m : M} (S : St K C H L m) {f : Str} {y : V} {D : Ends} {σ : L2.St} (c : Cls K C) (n : NoAttr K C f) (q : D.nx σ (upd H L.a (.ins C L.dx (putF f y (flds L m))))) : sfld K f y D σ (.ref L.a) H :=
  ⟨_, _, _, _, rfl, S.at_, c, n, flds_len L m, q⟩
def sp_note_event (K : PySem.W.Frag) (C : Addr) : Sp := fun vs H Q _ => ∃ (L : Lay) (m : M) (u : V) (e : Ev), vs = [.ref L.a, u] ∧ St K C H L m ∧ Eq4 K H u e ∧ m.ev.length ≤ 100 ∧ ∀ H' L', Keep L H L' H' → St K C H' L' { m with ev := m.ev ++ [e] } → Q .non H'
abbrev s_note_event : Stmt := inClass (top 47) 3
theorem sc_note_event : FnScope ["self", "event"] ["self", "event"] (defScope s_note_event) := ⟨rfl, rfl, rfl, by decide +kernel, rfl, by decide +kernel, by decide +kernel⟩
theorem ok_note_event (T : Tx K mg az an aw d1 d2 d3 C) (h : HasM K C "note_event" s_note_event ["self", "event"]) :
    OkM P w K mg base C "note_event" 1 ["self", "event"] (sp_note_event K C) := by
  refine okM_of h sc_note_event (fun vs H Q E h => ?_) (fun f q cdv A outer s H vs Q E hr h => ⟨_, (pss_one (ps_fld (pv 0) (pe_op op_cat (pe_fldK (K := K) rfl (pv 0) rfl) (pe_lst (pa_cons (pv 1) pa_nil))) rfl)), ?_⟩)
  · first | (obtain ⟨_, rfl, _⟩ := h; rfl) | (obtain ⟨_, _, rfl, _⟩ := h; rfl) | (obtain ⟨_, _, _, rfl, _⟩ := h; rfl) | (obtain ⟨_, _, _, _, rfl, _⟩ := h; rfl) | (obtain ⟨_, _, _, _, _, rfl, _⟩ := h; rfl) | (obtain ⟨_, _, _, _, _, _, rfl, _⟩ := h; rfl) | (obtain ⟨_, _, _, _, _, _, _, rfl, _⟩ := h; rfl) | (obtain ⟨_, _, _, _, _, _, _, _, rfl, _⟩ := h; rfl) | (obtain ⟨_, _, _, _, _, _, _, _, _, rfl, _⟩ := h; rfl) | (obtain ⟨_, _, _, _, _, _, _, _, _, _, rfl, _⟩ := h; rfl) | (obtain ⟨_, _, _, _, _, _, _, _, _, _, _, rfl, _⟩ := h; rfl) | (obtain ⟨_, _, _, _, _, _, _, _, _, _, _, _, rfl, _⟩ := h; rfl) | (obtain ⟨_, _, _, _, _, _, _, _, _, _, _, _, _, rfl, _⟩ := h; rfl)

  · obtain ⟨L, m, u, e, rfl, S, he, hl, k⟩ := h
    obtain ⟨xs, hx, hxs⟩ := S.ev
    repeat wtm_at "lwst"
    refine fl_events T S ?_
    repeat wtm_at "lwst"
    refine new_l (by simp) fun p1 H1 h1n e1 h1 => ?_
    repeat wtm_at "lwst"
    refine st_cat (e1 _ _ hx) h1 (by rw [hxs.len]; simp; omega) fun nl H2 hn e2 h2 => ?_
    repeat wtm_at "lwst"
    have e12 := e1.trans e2
    have S2 := S.up e12
    refine go_sfld S2 T.cl T.n_events ?_
    repeat wtm_at "lwst"
    exact k _ { L with ev := nl } (keep_upd e12 in_a rfl rfl) (sta_ev S2 h2 (All2.app (hxs.imp fun _ _ q => q.up e12) (All2.one (he.up e12))) ((S.up e1).fresh hn))
def sp_forget_last (K : PySem.W.Frag) (C : Addr) : Sp := fun vs H Q _ => ∃ (L : Lay) (m : M), vs = [.ref L.a] ∧ St K C H L m ∧ m.ev ≠ [] ∧ ∀ H' L', Keep L H L' H' → St K C H' L' { m with ev := m.ev.dropLast } → Q .non H'
abbrev s_forget_last : Stmt := inClass (top 47) 4
theorem sc_forget_last : FnScope ["self"] ["self"] (defScope s_forget_last) := ⟨rfl, rfl, rfl, by decide +kernel, rfl, by decide +kernel, by decide +kernel⟩
theorem ok_forget_last (T : Tx K mg az an aw d1 d2 d3 C) (h : HasM K C "forget_last" s_forget_last ["self"]) :
    OkM P w K mg base C "forget_last" 1 ["self"] (sp_forget_last K C) := by
  refine okM_of h sc_forget_last (fun vs H Q E h => ?_) (fun f q cdv A outer s H vs Q E hr h => ⟨_, (pss_one (ps_fld (pv 0) (pe_slice (sl_listK (K := K) rfl) (pe_fldK (K := K) rfl (pv 0) rfl) po_none (po_some (pe_un un_neg pe_int))) rfl)), ?_⟩)
  · first | (obtain ⟨_, rfl, _⟩ := h; rfl) | (obtain ⟨_, _, rfl, _⟩ := h; rfl) | (obtain ⟨_, _, _, rfl, _⟩ := h; rfl) | (obtain ⟨_, _, _, _, rfl, _⟩ := h; rfl) | (obtain ⟨_, _, _, _, _, rfl, _⟩ := h; rfl) | (obtain ⟨_, _, _, _, _, _, rfl, _⟩ := h; rfl) | (obtain ⟨_, _, _, _, _, _, _, rfl, _⟩ := h; rfl) | (obtain ⟨_, _, _, _, _, _, _, _, rfl, _⟩ := h; rfl) | (obtain ⟨_, _, _, _, _, _, _, _, _, rfl, _⟩ := h; rfl) | (obtain ⟨_, _, _, _, _, _, _, _, _, _, rfl, _⟩ := h; rfl) | (obtain ⟨_, _, _, _, _, _, _, _, _, _, _, rfl, _⟩ := h; rfl) | (obtain ⟨_, _, _, _, _, _, _, _, _, _, _, _, rfl, _⟩ := h; rfl) | (obtain ⟨_, _, _, _, _, _, _, _, _, _, _, _, _, rfl, _⟩ := h; rfl)

  · obtain ⟨L, m, rfl, S, hne, k⟩ := h
    obtain ⟨xs, hx, hxs⟩ := S.ev
    have xne : xs ≠ [] := fun z => by
      have := hxs.len
      rw [z] at this
      exact hne (List.length_eq_zero_iff.mp this.symm)
    repeat wtm_at "lwst"
    refine fl_events T S ?_
    repeat wtm_at "lwst"
    refine st_slL (SqL.of hx) fun nl H2 hn e2 h2 => ?_
    rw [cut_last xs xne] at h2
    repeat wtm_at "lwst"
    have S2 := S.up e2
    refine go_sfld S2 T.cl T.n_events ?_
    repeat wtm_at "lwst"
    exact k _ { L with ev := nl } (keep_upd e2 in_a rfl rfl) (sta_ev S2 h2 (hxs.dropLast.imp fun _ _ q => q.up e2) (S.fresh hn))
def sp_put_weights (K : PySem.W.Frag) (C : Addr) : Sp := fun vs H Q _ => ∃ (L : Lay) (m : M) (k c : Nat) (u : V) (row : List Nat), vs = [.ref L.a, .int (k : Int), .int (c : Int), u] ∧ St K C H L m ∧ Wf m ∧ k < 3 ∧ c < m.nc ∧ Ns K H u row ∧ ∀ H', Keep L H L H' → St K C H' L { m with pol := m.pol.set k ((m.pol.getD k []).set c row) } → Q .non H'
abbrev s_put_weights : Stmt := inClass (top 47) 5
theorem sc_put_weights : FnScope ["self", "policy", "context", "weights"] ["self", "policy", "context", "weights"] (defScope s_put_weights) := ⟨rfl, rfl, rfl, by decide +kernel, rfl, by decide +kernel, by decide +kernel⟩
theorem ok_put_weights (T : Tx K mg az an aw d1 d2 d3 C) (h : HasM K C "put_weights" s_put_weights ["self", "policy", "context", "weights"]) :
    OkM P w K mg base C "put_weights" 1 ["self", "policy", "context", "weights"] (sp_put_weights K C) := by
  refine okM_of h sc_put_weights (fun vs H Q E h => ?_) (fun f q cdv A outer s H vs Q E hr h => ⟨_, (pss_one (ps_asg (pe_callTy (cb_listK (K := K) rfl) (by rfl) T.b_list (by decide +kernel) (pa_cons (pv 3) pa_nil)) (pg_sub (pe_ix (ix_listK (K := K) rfl) (pe_fldK (K := K) rfl (pv 0) rfl) (pv 1) (fun _ _ => rfl)) (pv 2) set_list))), ?_⟩)
  · first | (obtain ⟨_, rfl, _⟩ := h; rfl) | (obtain ⟨_, _, rfl, _⟩ := h; rfl) | (obtain ⟨_, _, _, rfl, _⟩ := h; rfl) | (obtain ⟨_, _, _, _, rfl, _⟩ := h; rfl) | (obtain ⟨_, _, _, _, _, rfl, _⟩ := h; rfl) | (obtain ⟨_, _, _, _, _, _, rfl, _⟩ := h; rfl) | (obtain ⟨_, _, _, _, _, _, _, rfl, _⟩ := h; rfl) | (obtain ⟨_, _, _, _, _, _, _, _, rfl, _⟩ := h; rfl) | (obtain ⟨_, _, _, _, _, _, _, _, _, rfl, _⟩ := h; rfl) | (obtain ⟨_, _, _, _, _, _, _, _, _, _, rfl, _⟩ := h; rfl) | (obtain ⟨_, _, _, _, _, _, _, _, _, _, _, rfl, _⟩ := h; rfl) | (obtain ⟨_, _, _, _, _, _, _, _, _, _, _, _, rfl, _⟩ := h; rfl) | (obtain ⟨_, _, _, _, _, _, _, _, _, _, _, _, _, rfl, _⟩ := h; rfl)

  · obtain ⟨L, m, k, c, u, row, rfl, S, W, hk, hc, ⟨p, rfl, hp⟩, kq⟩ := h
    repeat wtm_at "lwst"
    refine st_list hp fun r H1 hrn e1 hr1 => ?_
    have S1 := S.up e1
    obtain ⟨q, r0, xs, hq, hx, hv, _⟩ := sta_row S1 W hk hc
    repeat wtm_at "lwst"
    refine fl_policies T S1 ?_
    repeat wtm_at "lwst"
    refine st_ixL (SqL.of S1.po) (atI_nat (map_ix hq)) ?_
    repeat wtm_at "lwst"
    have lt : c < xs.length := (List.getElem?_eq_some_iff.mp hv).1
    refine st_setL hx lt ?_
    repeat wtm_at "lwst"
    exact kq _ (keep_upd e1 (in_ps (List.mem_of_getElem? hq)) rfl rfl) (sta_wt S1 hq hx hr1 (S.fresh hrn))
def RR (F : List Addr) : Addr → Hp → V → List Nat → Prop := fun D H v ns => ∃ p, v = .ref p ∧ p ≠ D ∧ p ∉ F ∧ H p = some (.lst ((nz ns).map V.int))
theorem RR.up {F : List Addr} : ∀ D H1 H2 v b, Same H1 H2 → RR F D H1 v b → RR F D H2 v b := fun _ _ _ _ _ e ⟨p, a, b, c, d⟩ => ⟨p, a, b, c, e _ _ d⟩
theorem RR.mu {F : List Addr} : ∀ D H1 acc o v b, H1 D = some (.lst acc) → RR F D H1 v b → RR F D (upd H1 D o) v b := fun _ _ _ _ _ _ _ ⟨p, a, b, c, d⟩ => ⟨p, a, b, c, by rw [upd_ne b]; exact d⟩
def sp_copy_policy (K : PySem.W.Frag) (C : Addr) : Sp := fun vs H Q _ => ∃ (L : Lay) (m : M) (a b : Nat), vs = [.ref L.a, .int (a : Int), .int (b : Int)] ∧ St K C H L m ∧ Wf m ∧ a < 3 ∧ b < 3 ∧ ∀ H' L', Keep L H L' H' → St K C H' L' { m with pol := m.pol.set b (m.pol.getD a []) } → Q .non H'
abbrev s_copy_policy : Stmt := inClass (top 47) 6
theorem sc_copy_policy : FnScope ["self", "source", "target", "weights"] ["self", "source", "target"] (defScope s_copy_policy) := ⟨rfl, rfl, rfl, by decide +kernel, rfl, by decide +kernel, by decide +kernel⟩
theorem ok_copy_policy (T : Tx K mg az an aw d1 d2 d3 C) (h : HasM K C "copy_policy" s_copy_policy ["self", "source", "target"]) :
    OkM P w K mg base C "copy_policy" 1 ["self", "source", "target"] (sp_copy_policy K C) := by
  refine okM_of h sc_copy_policy (fun vs H Q E h => ?_) (fun f q cdv A outer s H vs Q E hr h => ⟨_, (pss_one (ps_asg (pe_lc (own := [("weights", 3)]) (by rfl) sc_copy_policy.nd (pi_list (pe_ix (ix_listK (K := K) rfl) (pe_fldK (K := K) rfl (pv 0) rfl) (pv 1) (fun _ _ => rfl))) (blkOk_by (own := [("weights", 3)]) (N := ["self", "source", "target", "weights"]) (sc := defScope s_copy_policy) (by decide +kernel)) (fun _ _ _ _ _ => (pg_name (i := 3) sc_copy_policy.nd rfl (Or.inl rfl))) (fun _ _ _ _ _ => pts_nil) (fun _ _ _ _ _ => (pe_callTy (cb_listK (K := K) rfl) (by rfl) T.b_list (by decide +kernel) (pa_cons (pv 3) pa_nil)))) (pg_sub (pe_fldK (K := K) rfl (pv 0) rfl) (pv 2) set_list))), ?_⟩)
  · first | (obtain ⟨_, rfl, _⟩ := h; rfl) | (obtain ⟨_, _, rfl, _⟩ := h; rfl) | (obtain ⟨_, _, _, rfl, _⟩ := h; rfl) | (obtain ⟨_, _, _, _, rfl, _⟩ := h; rfl) | (obtain ⟨_, _, _, _, _, rfl, _⟩ := h; rfl) | (obtain ⟨_, _, _, _, _, _, rfl, _⟩ := h; rfl) | (obtain ⟨_, _, _, _, _, _, _, rfl, _⟩ := h; rfl) | (obtain ⟨_, _, _, _, _, _, _, _, rfl, _⟩ := h; rfl) | (obtain ⟨_, _, _, _, _, _, _, _, _, rfl, _⟩ := h; rfl) | (obtain ⟨_, _, _, _, _, _, _, _, _, _, rfl, _⟩ := h; rfl) | (obtain ⟨_, _, _, _, _, _, _, _, _, _, _, rfl, _⟩ := h; rfl) | (obtain ⟨_, _, _, _, _, _, _, _, _, _, _, _, rfl, _⟩ := h; rfl) | (obtain ⟨_, _, _, _, _, _, _, _, _, _, _, _, _, rfl, _⟩ := h; rfl)

  · obtain ⟨L, m, a, b, rfl, S, W, ha, hb, kq⟩ := h
    have hP : m.pol[a]? = some (m.pol[a]'(by rw [W.pol3]; exact ha)) := List.getElem?_eq_getElem _
    obtain ⟨p, hp, xs, hx, hr⟩ := S.ps.get' hP
    have eP : m.pol.getD a [] = m.pol[a]'(by rw [W.pol3]; exact ha) := by rw [List.getD_eq_getElem?_getD, hP, Option.getD_some]
    have pl := (W.pol _ (List.mem_of_getElem? hP)).1
    have nc6 := W.nc6
    have psl : L.ps.length = 3 := by rw [S.ps.len, W.pol3]
    repeat wtm_at "lwst"
    refine fl_policies T S ?_
    repeat wtm_at "lwst"
    refine st_ixL (SqL.of S.po) (atI_nat (map_ix hp)) ?_
    repeat wtm_at "lwst"
    refine go_lcL (R := RR L.F) (zs := m.pol[a]'(by rw [W.pol3]; exact ha)) hr.len (by rw [hr.len]; omega) (Same.refl H) (SqL.of hx) RR.up RR.mu (fun D i x z H1 hi hz hD e hacc Q' kq => ?_) (fun np H1 ws hnn e1 h1 a1 => ?_)
    · obtain ⟨ns, hns, q, rfl, hqF, hq⟩ := hr.get hi
      rw [hz] at hns
      cases hns
      repeat wtm_at "lwst"
      refine ⟨rfl, ?_⟩
      repeat wtm_at "lwst"
      refine st_list (SqL.of (e _ _ hq)) fun r H2 hrn e2 hr2 => ?_
      obtain ⟨acc, hacc⟩ := hacc
      exact kq _ H2 e2 ⟨r, rfl, (fun z => by rw [z, hacc] at hrn; cases hrn), (S.up e).fresh hrn, hr2⟩
    · have S1 := S.up e1
      repeat wtm_at "lwst"
      refine fl_policies T S1 ?_
      repeat wtm_at "lwst"
      refine st_setL (xs := L.ps.map V.ref) S1.po (by rw [List.length_map]; omega) ?_
      repeat wtm_at "lwst"
      have es : (L.ps.map V.ref).set b (.ref np) = (L.ps.set b np).map V.ref := by rw [List.map_set]
      rw [es]
      have fin := sta_po S e1 (b := b) (by omega) hnn h1 a1
      rw [← eP] at fin
      exact kq _ _ fin.2 fin.1
def sp_put_model (K : PySem.W.Frag) (C : Addr) : Sp := fun vs H Q _ => ∃ (L : Lay) (m : M) (c : Nat) (u : V) (rs : List Rw), vs = [.ref L.a, .int (c : Int), u] ∧ St K C H L m ∧ m.mo.length = m.nc ∧ c < m.nc ∧ Fs K H u rs ∧ ∀ H', Keep L H L H' → St K C H' L { m with mo := m.mo.set c rs } → Q .non H'
abbrev s_put_model : Stmt := inClass (top 47) 7
theorem sc_put_model : FnScope ["self", "context", "estimates"] ["self", "context", "estimates"] (defScope s_put_model) := ⟨rfl, rfl, rfl, by decide +kernel, rfl, by decide +kernel, by decide +kernel⟩
theorem ok_put_model (T : Tx K mg az an aw d1 d2 d3 C) (h : HasM K C "put_model" s_put_model ["self", "context", "estimates"]) :
    OkM P w K mg base C "put_model" 1 ["self", "context", "estimates"] (sp_put_model K C) := by
  refine okM_of h sc_put_model (fun vs H Q E h => ?_) (fun f q cdv A outer s H vs Q E hr h => ⟨_, (pss_one (ps_asg (pe_callTy (cb_listK (K := K) rfl) (by rfl) T.b_list (by decide +kernel) (pa_cons (pv 2) pa_nil)) (pg_sub (pe_fldK (K := K) rfl (pv 0) rfl) (pv 1) set_list))), ?_⟩)
  · first | (obtain ⟨_, rfl, _⟩ := h; rfl) | (obtain ⟨_, _, rfl, _⟩ := h; rfl) | (obtain ⟨_, _, _, rfl, _⟩ := h; rfl) | (obtain ⟨_, _, _, _, rfl, _⟩ := h; rfl) | (obtain ⟨_, _, _, _, _, rfl, _⟩ := h; rfl) | (obtain ⟨_, _, _, _, _, _, rfl, _⟩ := h; rfl) | (obtain ⟨_, _, _, _, _, _, _, rfl, _⟩ := h; rfl) | (obtain ⟨_, _, _, _, _, _, _, _, rfl, _⟩ := h; rfl) | (obtain ⟨_, _, _, _, _, _, _, _, _, rfl, _⟩ := h; rfl) | (obtain ⟨_, _, _, _, _, _, _, _, _, _, rfl, _⟩ := h; rfl) | (obtain ⟨_, _, _, _, _, _, _, _, _, _, _, rfl, _⟩ := h; rfl) | (obtain ⟨_, _, _, _, _, _, _, _, _, _, _, _, rfl, _⟩ := h; rfl) | (obtain ⟨_, _, _, _, _, _, _, _, _, _, _, _, _, rfl, _⟩ := h; rfl)

  · obtain ⟨L, m, c, u, rs, rfl, S, W, hc, ⟨p, ys, rfl, hp, hys⟩, kq⟩ := h
    repeat wtm_at "lwst"
    refine st_list hp fun r H1 hrn e1 hr1 => ?_
    have S1 := S.up e1
    obtain ⟨xs, hx, hxs⟩ := S1.mo
    repeat wtm_at "lwst"
    refine fl_model T S1 ?_
    repeat wtm_at "lwst"
    refine st_setL hx (by rw [hxs.len, W]; exact hc) ?_
    repeat wtm_at "lwst"
    exact kq _ (keep_upd e1 in_mo rfl rfl) (sta_mo S1 hx hr1 (hys.imp fun _ _ q => q.up e1) (S.fresh hrn))
def sp_put_truth (K : PySem.W.Frag) (C : Addr) : Sp := fun vs H Q _ => ∃ (L : Lay) (m : M) (c x : Nat) (u : V) (row : List Nat), vs = [.ref L.a, .int (c : Int), .int (x : Int), u] ∧ St K C H L m ∧ Wf m ∧ c < m.nc ∧ Ns K H u row ∧ (∀ p, u = .ref p → p ∉ L.F) ∧ ∀ H', Keep L H L H' → St K C H' L { m with tw := m.tw.set c x, tr := m.tr.set c row } → Q .non H'
abbrev s_put_truth : Stmt := inClass (top 47) 8
theorem sc_put_truth : FnScope ["self", "context", "weight", "rewards"] ["self", "context", "weight", "rewards"] (defScope s_put_truth) := ⟨rfl, rfl, rfl, by decide +kernel, rfl, by decide +kernel, by decide +kernel⟩
theorem ok_put_truth (T : Tx K mg az an aw d1 d2 d3 C) (h : HasM K C "put_truth" s_put_truth ["self", "context", "weight", "rewards"]) :
    OkM P w K mg base C "put_truth" 1 ["self", "context", "weight", "rewards"] (sp_put_truth K C) := by
  refine okM_of h sc_put_truth (fun vs H Q E h => ?_) (fun f q cdv A outer s H vs Q E hr h => ⟨_, (pss_cons (ps_asg (pv 2) (pg_sub (pe_fldK (K := K) rfl (pv 0) rfl) (pv 1) set_list))
      (pss_one (ps_asg (pe_callTy (cb_listK (K := K) rfl) (by rfl) T.b_list (by decide +kernel) (pa_cons (pv 3) pa_nil)) (pg_sub (pe_fldK (K := K) rfl (pv 0) rfl) (pv 1) set_list)))), ?_⟩)
  · first | (obtain ⟨_, rfl, _⟩ := h; rfl) | (obtain ⟨_, _, rfl, _⟩ := h; rfl) | (obtain ⟨_, _, _, rfl, _⟩ := h; rfl) | (obtain ⟨_, _, _, _, rfl, _⟩ := h; rfl) | (obtain ⟨_, _, _, _, _, rfl, _⟩ := h; rfl) | (obtain ⟨_, _, _, _, _, _, rfl, _⟩ := h; rfl) | (obtain ⟨_, _, _, _, _, _, _, rfl, _⟩ := h; rfl) | (obtain ⟨_, _, _, _, _, _, _, _, rfl, _⟩ := h; rfl) | (obtain ⟨_, _, _, _, _, _, _, _, _, rfl, _⟩ := h; rfl) | (obtain ⟨_, _, _, _, _, _, _, _, _, _, rfl, _⟩ := h; rfl) | (obtain ⟨_, _, _, _, _, _, _, _, _, _, _, rfl, _⟩ := h; rfl) | (obtain ⟨_, _, _, _, _, _, _, _, _, _, _, _, rfl, _⟩ := h; rfl) | (obtain ⟨_, _, _, _, _, _, _, _, _, _, _, _, _, rfl, _⟩ := h; rfl)

  · obtain ⟨L, m, c, x, u, row, rfl, S, W, hc, ⟨p, rfl, hp⟩, hpF, kq⟩ := h
    have hpF := hpF p rfl
    repeat wtm_at "lwst"
    refine fl_tw T S ?_
    repeat wtm_at "lwst"
    refine st_setL S.tw (by rw [nzV_len, W.tw.1]; exact hc) ?_
    have S1 := sta_tw (c := c) (w := x) S
    have k1 : Keep L H L (upd H L.tw (.lst (((nz m.tw).map V.int).set c (.int (x : Int))))) := keep_upd (Same.refl H) in_tw rfl rfl
    have hp1 : SqL K (upd H L.tw (.lst (((nz m.tw).map V.int).set c (.int (x : Int))))) p ((nz row).map V.int) := by
      rcases hp with (hp | ⟨ob, hp⟩) | hp
      · exact .inl (.inl (by rw [upd_out in_tw hpF]; exact hp))
      · exact .inl (.inr ⟨ob, by rw [upd_out in_tw hpF]; exact hp⟩)
      · exact .inr hp
    repeat wtm_at "lwst"
    refine st_list hp1 fun r H1 hrn e1 hr1 => ?_
    have S2 := S1.up e1
    obtain ⟨xs, hx, hxs⟩ := S2.tr
    repeat wtm_at "lwst"
    refine fl_tr T S2 ?_
    repeat wtm_at "lwst"
    refine st_setL hx (by rw [hxs.len]; show c < m.tr.length; rw [W.tr.1]; exact hc) ?_
    repeat wtm_at "lwst"
    exact kq _ (k1.trans (keep_upd e1 in_tr rfl rfl)) (sta_tr S2 hx hr1 (S1.fresh hrn))
end
end Lw

namespace Lw
open PySem PySem.Spec PyProof.Rows L2
local macro_rules | `(tactic| wtm_at "lwsame") => `(tactic| first
  | assumption | exact Same.refl _ | (refine Same.trans (by assumption) ?_; wtm_at "lwsame"))
local macro_rules | `(tactic| wtm_at "lwup") => `(tactic| first
  | assumption
  | ((with_reducible show SqT _ _ _ _); first | (refine sqT_up ?_ (by assumption); wtm_at "lwsame") | (refine KT.sq ?_ _; assumption) | (refine SqT.of ?_; wtm_at "lwup"))
  | ((with_reducible show SqL _ _ _ _); first | (refine sqL_up ?_ (by assumption); wtm_at "lwsame") | (refine SqL.of ?_; wtm_at "lwup"))
  | ((with_reducible show _ = some _); refine (show Same _ _ by wtm_at "lwsame") _ _ (by assumption))
  | ((with_reducible show Fq _ _ _ _); refine Fq.up ?_ (by assumption); wtm_at "lwsame")
  | ((with_reducible show Fs _ _ _ _); refine Fs.up ?_ (by assumption); wtm_at "lwsame")
  | ((with_reducible show Is _ _ _ _); refine Is.up ?_ (by assumption); wtm_at "lwsame")
  | ((with_reducible show Ns _ _ _ _); refine Ns.up ?_ (by assumption); wtm_at "lwsame")
  | ((with_reducible show Eq4 _ _ _ _); refine Eq4.up ?_ (by assumption); wtm_at "lwsame")
  | ((with_reducible show Evs _ _ _ _); refine Evs.up ?_ (by assumption); wtm_at "lwsame"))
local macro_rules | `(tactic| wtm_at "lwst2") => `(tactic| first
  | (with_reducible refine st_drop ?_)
  | (with_reducible refine st_par ?_)
  | (with_reducible refine st_par2 ?_)
  | (with_reducible refine st_un ?_)
  | (with_reducible refine st_rU ?_)
  | (with_reducible refine st_B ?_)
  | (with_reducible refine st_not ?_)
  | (with_reducible refine st_and ?_)
  | (with_reducible refine st_or ?_)
  | (with_reducible refine st_andV ?_)
  | (with_reducible refine st_orV ?_)
  | (with_reducible refine st_isB2 ?_)
  | (with_reducible refine st_ifE ?_)
  | (with_reducible refine st_yes ?_)
  | (with_reducible refine st_forL ?_)
  | (with_reducible refine st_forR ?_)
  | (with_reducible refine st_lcL ?_)
  | (with_reducible refine st_lcR ?_)
  | (with_reducible refine st_lcZ ?_)
  | (with_reducible refine st_bm ?_)
  | (with_reducible refine st_sfld ?_)
  | (with_reducible refine st_gsub ?_)
  | (with_reducible refine st_meth ?_)
  | (with_reducible refine st_sl ?_)
  | (with_reducible refine st_nopart ?_)
  | (with_reducible refine st_part ?_)
  | (with_reducible refine st_isI ?_)
  | (with_reducible refine st_rev ?_)
  | (with_reducible refine st_ckw ?_)
  | (with_reducible refine st_abs ?_)
  | ((with_reducible refine st_eq ?hh ?_); (case hh => exact rfl))
  | ((with_reducible refine st_ne ?hh ?_); (case hh => exact rfl))
  | ((with_reducible refine st_ixT (v := ?vv) (xs := ?xx) ?hh ?hi ?_); (case hh => wtm_at "lwup"); (case hi => exact rfl))
  | ((with_reducible refine st_gtup (xs := ?xx) ?hh ?hi ?_); (case hh => wtm_at "lwup"); (case hi => exact rfl)))
local macro_rules | `(tactic| wtm_at "lwst") => `(tactic| first
  | (with_reducible refine st_cons ?_)
  | ((with_reducible refine st_var (v := ?vv) ?hh ?_); (case hh => exact rfl))
  | (with_reducible refine st_nil ?_)
  | (with_reducible refine st_call ?_)
  | (with_reducible refine st_gname ?_)
  | (with_reducible refine st_c ?_)
  | (with_reducible refine st_seq ?_)
  | (with_reducible refine st_op ?_)
  | (with_reducible refine st_ret ?_)
  | (with_reducible refine st_lst ?_)
  | (with_reducible refine st_gcons ?_)
  | (with_reducible refine st_asg ?_)
  | (with_reducible refine st_isB ?_)
  | (with_reducible refine st_ifS ?_)
  | (with_reducible refine st_nx0 ?_)
  | (with_reducible refine st_test ?_)
  | (with_reducible refine st_fld ?_)
  | (with_reducible refine st_nx ?_)
  | (with_reducible refine st_rI0 ?_)
  | (with_reducible refine st_callB ?_)
  | (with_reducible refine st_gnil ?_)
  | (with_reducible refine st_tup ?_)
  | wtm_at "lwst2")

/-! ## A new study -/
section
variable {K : PySem.W.Frag} {C : Addr} {g : TG} {te : TE} {vs : List Nat} {σ : L2.St} {H : Hp} {Q : VK}
/-- over a range: what is kept of the new list's items so far -/
theorem go_lcRI {n : Nat} (Iv : Addr → Nat → List V → Hp → Prop) (hz : n ≤ 100000) (h0 : ∀ D, H D = none → Iv D 0 [] (upd H D (.lst [])))
    (hs : ∀ (D : Addr) (i : Nat) (acc : List V) H1, i < n → H D = none → Same H H1 → H1 D = some (.lst acc) → acc.length = i → Iv D i acc H1 → ∀ Q' : VK, (∀ y H4, Same H1 H4 → Iv D (i + 1) (acc ++ [y]) (upd H4 D (.lst (acc ++ [y]))) → Q' y H4) →
      g (.int (i : Int)) (wipe σ vs) H1 fun σ2 H2 => wipe σ2 vs = wipe σ vs ∧ te σ2 H2 Q')
    (hd : ∀ p H2 ws, H p = none → Same H H2 → H2 p = some (.lst ws) → ws.length = n → Iv p n ws H2 → Q (.ref p) H2) : lcR g tYes te vs σ Q [.int (n : Int)] H := by
  refine ⟨_, rfl, by omega, by omega, fun D hD => ?_⟩
  refine lc_range (lo := 0) (n := ((n : Nat) : Int).toNat) (fun i H1 => Same H H1 ∧ ∃ acc, H1 D = some (.lst acc) ∧ acc.length = i ∧ Iv D i acc H1) ⟨same_new hD, [], upd_same, rfl, h0 D hD⟩ (fun i H1 hi p => ?_) (fun H1 p => ?_)
  · rw [Int.toNat_natCast] at hi
    obtain ⟨e, acc, h1, hl, hI⟩ := p
    have h := hs D i acc H1 hi hD e h1 hl hI (fun y H4 => ∃ acc, H4 D = some (.lst acc) ∧ acc.length < sizeLine ∧ (Same H (upd H4 D (.lst (acc ++ [y]))) ∧ ∃ acc', upd H4 D (.lst (acc ++ [y])) D = some (.lst acc') ∧ acc'.length = i + 1 ∧ Iv D (i + 1) acc' (upd H4 D (.lst (acc ++ [y]))))) (fun y H4 e4 r => ?_)
    · rw [Int.zero_add]
      exact h
    · refine ⟨acc, e4 _ _ h1, ?_, same_mut (e.trans e4) hD, _, upd_same, by simp [hl], r⟩
      rw [hl]
      refine Nat.lt_of_le_of_lt (m := 100000) ?_ (by decide)
      omega
  · rw [Int.toNat_natCast] at p
    obtain ⟨e, acc, h1, hl, hI⟩ := p
    exact hd D H1 acc hD e h1 hl hI
/-- rows: each a list of these items, apart from the outer list -/
def Rows (G : Addr → Prop) (H : Hp) (D : Addr) (xs : List V) (n : Nat) : Prop := ∃ ws, H D = some (.lst ws) ∧ ws.length = n ∧ ∀ w ∈ ws, ∃ q, w = .ref q ∧ q ≠ D ∧ G q ∧ H q = some (.lst xs)
theorem Rows.up {G : Addr → Prop} {H H' : Hp} {D : Addr} {xs : List V} {n : Nat} (e : Same H H') (h : Rows G H D xs n) : Rows G H' D xs n :=
  let ⟨ws, a, b, c⟩ := h
  ⟨ws, e _ _ a, b, fun w hw => let ⟨q, x, y, z, t⟩ := c w hw; ⟨q, x, y, z, e _ _ t⟩⟩
theorem Rows.updN {G : Addr → Prop} {H : Hp} {D x : Addr} {xs : List V} {n : Nat} {o : HO} (hD : D ≠ x) (hq : ∀ q, G q → H q = some (.lst xs) → q ≠ x) (h : Rows G H D xs n) : Rows G (upd H x o) D xs n :=
  let ⟨ws, a, b, c⟩ := h
  ⟨ws, by rw [upd_ne hD]; exact a, b, fun w hw => let ⟨q, x, y, z, t⟩ := c w hw; ⟨q, x, y, z, by rw [upd_ne (hq q z t)]; exact t⟩⟩
theorem Rows.updI {G : Addr → Prop} {H : Hp} {D x : Addr} {xs : List V} {n : Nat} {o : HO} {f : List (Str × V)} {C dx : Addr} (hx : H x = some (.ins C dx f)) (h : Rows G H D xs n) : Rows G (upd H x o) D xs n :=
  h.updN (fun e => by obtain ⟨ws, a, _⟩ := h; rw [e, hx] at a; cases a) fun q _ t e => by rw [e, hx] at t; cases t
theorem Rows.mono {G G' : Addr → Prop} {H : Hp} {D : Addr} {xs : List V} {n : Nat} (e : ∀ b, G b → H b = some (.lst xs) → G' b) (h : Rows G H D xs n) : Rows G' H D xs n :=
  let ⟨ws, a, b, c⟩ := h
  ⟨ws, a, b, fun w hw => let ⟨q, x, y, z, t⟩ := c w hw; ⟨q, x, y, e _ z t, t⟩⟩
theorem Rows.off {G : Addr → Prop} {H : Hp} {D b : Addr} {xs : List V} {n : Nat} (hb : H b = none) (h : Rows G H D xs n) : Rows (fun q => G q ∧ q ≠ b) H D xs n :=
  h.mono fun q z t => ⟨z, fun e => by rw [e, hb] at t; cases t⟩
theorem Rows.ne {G : Addr → Prop} {H : Hp} {D b : Addr} {xs : List V} {n : Nat} (hb : H b = none) (h : Rows G H D xs n) : D ≠ b := fun e => by
  obtain ⟨ws, a, _⟩ := h
  rw [e, hb] at a
  cases a
/-- the three policies -/
def Pols (G1 G2 : Addr → Prop) (H : Hp) (D : Addr) (ps : List Addr) (xs : List V) (n : Nat) : Prop := ps.Nodup ∧ (∀ p ∈ ps, p ≠ D ∧ G1 p ∧ Rows (fun q => q ≠ D ∧ G2 q) H p xs n)
theorem Pols.up {G1 G2 : Addr → Prop} {H H' : Hp} {D : Addr} {ps : List Addr} {xs : List V} {n : Nat} (e : Same H H') (h : Pols G1 G2 H D ps xs n) : Pols G1 G2 H' D ps xs n :=
  ⟨h.1, fun p hp => ⟨(h.2 p hp).1, (h.2 p hp).2.1, (h.2 p hp).2.2.up e⟩⟩
theorem Pols.updI {G1 G2 : Addr → Prop} {H : Hp} {D x : Addr} {ps : List Addr} {xs : List V} {n : Nat} {o : HO} {f : List (Str × V)} {C dx : Addr} (hx : H x = some (.ins C dx f)) (h : Pols G1 G2 H D ps xs n) : Pols G1 G2 (upd H x o) D ps xs n :=
  ⟨h.1, fun p hp => ⟨(h.2 p hp).1, (h.2 p hp).2.1, (h.2 p hp).2.2.updI hx⟩⟩
theorem Pols.off {G1 G2 : Addr → Prop} {H : Hp} {D b : Addr} {ps : List Addr} {xs : List V} {n : Nat} (hb : H b = none) (h : Pols G1 G2 H D ps xs n) : Pols (fun p => G1 p ∧ p ≠ b) (fun q => G2 q ∧ q ≠ b) H D ps xs n :=
  ⟨h.1, fun p hp => ⟨(h.2 p hp).1, ⟨(h.2 p hp).2.1, (h.2 p hp).2.2.ne hb⟩, ((h.2 p hp).2.2.off hb).mono fun q z t => ⟨z.1.1, z.1.2, z.2⟩⟩⟩
theorem Pols.some {G1 G2 : Addr → Prop} {H : Hp} {D b : Addr} {ps : List Addr} {xs : List V} {n : Nat} (h : Pols G1 G2 H D ps xs n) (hb : b ∈ ps) : ∃ ws, H b = .some (.lst ws) :=
  let ⟨_, _, ws, a, _⟩ := h.2 b hb
  ⟨ws, a⟩
theorem born {H : Hp} {a b : Addr} {o : HO} (ha : H a = some o) (hb : H b = none) : b ≠ a := fun e => by rw [e, ha] at hb; cases hb
theorem put_new {f : Str} {v : V} {fs : List (Str × V)} (ks : List Str) (hk : fs.map Prod.fst = ks) (h : ks.all (fun g => !(g == f)) = true) : putF f v fs = fs ++ [(f, v)] := by
  subst hk
  induction fs with
  | nil => rfl
  | cons x r ih =>
    obtain ⟨g, y⟩ := x
    simp only [List.map_cons, List.all_cons, Bool.and_eq_true, Bool.not_eq_true', beq_eq_false_iff_ne] at h
    rw [putF, if_neg h.1, ih h.2]
    rfl
/-- the study's instance under way: its attributes so far; what stood before stands -/
structure Und (C : Addr) (H0 : Hp) (x dx : Addr) (fs : List (Str × V)) (H : Hp) : Prop where
  at_ : H x = some (.ins C dx fs)
  old : ∀ b o, H0 b = some o → b ≠ x → H b = some o
theorem Und.up {H0 H H' : Hp} {x dx : Addr} {fs : List (Str × V)} (e : Same H H') (h : Und C H0 x dx fs H) : Und C H0 x dx fs H' := ⟨e _ _ h.at_, fun b o z n => e _ _ (h.old b o z n)⟩
theorem Und.put {H0 H : Hp} {x dx : Addr} {fs gs : List (Str × V)} (h : Und C H0 x dx fs H) : Und C H0 x dx gs (upd H x (.ins C dx gs)) := ⟨upd_same, fun b o z n => by rw [upd_ne n]; exact h.old b o z n⟩
theorem Und.none {H0 H : Hp} {x dx b : Addr} {fs : List (Str × V)} (h : Und C H0 x dx fs H) (hb : H b = none) : H0 b = none := by
  cases q : H0 b with
  | none => rfl
  | some u =>
    have ne : b ≠ x := born h.at_ hb
    rw [h.old b u q ne] at hb
    cases hb
theorem rep_one (k : Nat) (v : V) : (List.replicate k [v]).flatten = List.replicate k v := by
  induction k with
  | zero => rfl
  | succ k ih => rw [List.replicate_succ, List.flatten_cons, ih, List.replicate_succ]; rfl
theorem rep_nz (k : Nat) (z : Nat) : List.replicate k (V.int ((z : Nat) : Int)) = (nz (List.replicate k z)).map V.int := by
  unfold nz
  rw [List.map_replicate, List.map_replicate]
theorem all2_rows {α : Type} {R : V → α → Prop} {ws : List V} {n : Nat} {b : α} (hl : ws.length = n) (h : ∀ w ∈ ws, R w b) : All2 R ws (List.replicate n b) := by
  subst hl
  induction ws with
  | nil => exact .nil
  | cons w r ih =>
    rw [List.length_cons, List.replicate_succ]
    exact .cons (h w List.mem_cons_self) (ih fun w hw => h w (List.mem_cons_of_mem _ hw))
theorem all2_reps {α β : Type} {R : α → β → Prop} {ws : List α} {n : Nat} {b : β} (hl : ws.length = n) (h : ∀ w ∈ ws, R w b) : All2 R ws (List.replicate n b) := by
  subst hl
  induction ws with
  | nil => exact .nil
  | cons w r ih =>
    rw [List.length_cons, List.replicate_succ]
    exact .cons (h w List.mem_cons_self) (ih fun w hw => h w (List.mem_cons_of_mem _ hw))
theorem ref_ne_int {ws : List V} {n : Nat} {xs : List V} (hn : 1 ≤ n) (h : ∀ w ∈ ws, ∃ q, w = V.ref q) (hl : ws.length = n) (hx : ∀ x ∈ xs, ∃ i, x = V.int i) (e : ws = xs) : False := by
  cases ws with
  | nil => simp at hl; omega
  | cons w r =>
    obtain ⟨q, hq⟩ := h w List.mem_cons_self
    obtain ⟨i, hi⟩ := hx w (by rw [← e]; exact List.mem_cons_self)
    rw [hq] at hi
    cases hi
end
section
variable {P : Program} {w : World} {K : PySem.W.Frag} {mg : Str → Option Value} {base : Heap} {az an aw d1 d2 d3 C : Addr}

def sp_equal_rows (K : PySem.W.Frag) (C : Addr) : Sp := fun vs H Q _ => ∃ (n : Nat) (p : Addr) (xs : List V), vs = [.int (n : Int), .ref p] ∧ n ≤ 6 ∧ SqL K H p xs ∧ ∀ D H', H D = none → Same H H' → Rows (fun q => H q = none) H' D xs n → Q (.ref D) H'
abbrev s_equal_rows : Stmt := top 46
theorem sc_equal_rows : FnScope ["many", "row", "at"] ["many", "row"] (defScope s_equal_rows) := ⟨rfl, rfl, rfl, by decide +kernel, rfl, by decide +kernel, by decide +kernel⟩
theorem ok_equal_rows (T : Tx K mg az an aw d1 d2 d3 C) (h : Has K mg "equal_rows" s_equal_rows ["many", "row"]) :
    Ok P w K mg base "equal_rows" 1 ["many", "row"] (sp_equal_rows K C) := by
  refine ok_of h sc_equal_rows (fun vs H Q E h => ?_) (fun f cdv A outer s H vs Q E hr h => ⟨_, (pss_one (ps_ret (pe_lc (own := [("at", 2)]) (by rfl) sc_equal_rows.nd (pi_range1 (by rfl) T.b_range (pa_cons (pv 0) pa_nil)) (blkOk_by (own := [("at", 2)]) (N := ["many", "row", "at"]) (sc := defScope s_equal_rows) (by decide +kernel)) (fun _ _ _ _ _ => (pg_name (i := 2) sc_equal_rows.nd rfl (Or.inl rfl))) (fun _ _ _ _ _ => pts_nil) (fun _ _ _ _ _ => (pe_callTy (cb_listK (K := K) rfl) (by rfl) T.b_list (by decide +kernel) (pa_cons (pv 1) pa_nil)))))), ?_⟩)
  · first | (obtain ⟨_, rfl, _⟩ := h; rfl) | (obtain ⟨_, _, rfl, _⟩ := h; rfl) | (obtain ⟨_, _, _, rfl, _⟩ := h; rfl) | (obtain ⟨_, _, _, _, rfl, _⟩ := h; rfl) | (obtain ⟨_, _, _, _, _, rfl, _⟩ := h; rfl) | (obtain ⟨_, _, _, _, _, _, rfl, _⟩ := h; rfl) | (obtain ⟨_, _, _, _, _, _, _, rfl, _⟩ := h; rfl) | (obtain ⟨_, _, _, _, _, _, _, _, rfl, _⟩ := h; rfl) | (obtain ⟨_, _, _, _, _, _, _, _, _, rfl, _⟩ := h; rfl) | (obtain ⟨_, _, _, _, _, _, _, _, _, _, rfl, _⟩ := h; rfl) | (obtain ⟨_, _, _, _, _, _, _, _, _, _, _, rfl, _⟩ := h; rfl) | (obtain ⟨_, _, _, _, _, _, _, _, _, _, _, _, rfl, _⟩ := h; rfl) | (obtain ⟨_, _, _, _, _, _, _, _, _, _, _, _, _, rfl, _⟩ := h; rfl)

  · obtain ⟨n, p, xs, rfl, hn, hp, k⟩ := h
    repeat wtm_at "lwst"
    refine go_lcR (R := fun D H1 v _ => ∃ q, v = .ref q ∧ q ≠ D ∧ H q = none ∧ H1 q = some (.lst xs)) (zs := List.replicate n ()) (by simp) (by omega) (Same.refl H) (fun D H1 H2 v _ e ⟨q, a, b, c, d⟩ => ⟨q, a, b, c, e _ _ d⟩) (fun D H1 acc o v _ hD ⟨q, a, b, c, d⟩ => ⟨q, a, b, c, by rw [upd_ne b]; exact d⟩) (fun D i z H1 hz hi hD e hacc Q' kq => ?_) (fun D H2 ws hD e hw a => ?_)
    · repeat wtm_at "lwst"
      refine ⟨rfl, ?_⟩
      repeat wtm_at "lwst"
      refine st_list (sqL_up e hp) fun r H2 hrn e2 hr2 => ?_
      obtain ⟨acc, hacc⟩ := hacc
      exact kq _ H2 e2 ⟨r, rfl, born hacc hrn, e.free hrn, hr2⟩
    · refine k D H2 hD e ⟨ws, hw, by rw [a.len]; simp, fun w hw => ?_⟩
      obtain ⟨i, hi⟩ := List.getElem?_of_mem hw
      obtain ⟨_, _, q, x, y, z, t⟩ := a.get hi
      exact ⟨q, x, y, z, t⟩
def sp___init__ (K : PySem.W.Frag) (C : Addr) : Sp := fun vs H Q _ => ∃ (x dx : Addr) (n k : Nat), vs = [.ref x, .int (n : Int), .int (k : Int)] ∧ 1 ≤ n ∧ n ≤ 6 ∧ 1 ≤ k ∧ k ≤ 5 ∧ H x = some (.ins C dx []) ∧ ∀ H' L', L'.a = x → St K C H' L' (fresh n k) → (∀ b o, H b = some o → b ≠ x → H' b = some o) → (∀ b ∈ L'.F, b = x ∨ H b = none) → Q .non H'
theorem st_asF {K : PySem.W.Frag} {f : Str} {y : V} {D : Ends} {σ : L2.St} {H0 H : Hp} {x dx : Addr} {fs gs : List (Str × V)} (U : Und C H0 x dx fs H) (c : Cls K C) (n : NoAttr K C f) (hl : fs.length < 1000) (hg : putF f y fs = gs) (q : ∀ U2 : Und C H0 x dx gs (upd H x (.ins C dx gs)), D.nx σ (upd H x (.ins C dx gs))) : sfld K f y D σ (.ref x) H :=
  ⟨_, _, _, _, rfl, U.at_, c, n, hl, by rw [hg]; exact q U.put⟩
abbrev s___init__ : Stmt := inClass (top 47) 0
theorem sc___init__ : FnScope ["self", "contexts", "actions", "policy"] ["self", "contexts", "actions"] (defScope s___init__) := ⟨rfl, rfl, rfl, by decide +kernel, rfl, by decide +kernel, by decide +kernel⟩
theorem ok___init__ (T : Tx K mg az an aw d1 d2 d3 C) (h : HasM K C "__init__" s___init__ ["self", "contexts", "actions"] ∧ PySem.W.makesIn K C = true ∧ PySem.W.keepIn K (.ref C) = true) (O_equal_rows : Ok P w K mg base "equal_rows" 1 ["many", "row"] (sp_equal_rows K C)) :
    OkI P w K mg base C 2 ["self", "contexts", "actions"] (sp___init__ K C) := by
  refine okI_of h sc___init__ (fun vs H Q E h => ?_) (fun f q cdv A outer s H vs Q E hr h => ⟨_, (pss_cons (ps_fld (pv 0) (pv 1) rfl)
      (pss_cons (ps_fld (pv 0) (pv 2) rfl)
      (pss_cons (ps_fld (pv 0) (pe_lst pa_nil) rfl)
      (pss_cons (ps_fld (pv 0) (pe_lc (own := [("policy", 3)]) (by rfl) sc___init__.nd (pi_range1 (by rfl) T.b_range (pa_cons (pe_globI (by rfl) T.m_POLICIES) pa_nil)) (blkOk_by (own := [("policy", 3)]) (N := ["self", "contexts", "actions", "policy"]) (sc := defScope s___init__) (by decide +kernel)) (fun _ _ _ _ _ => (pg_name (i := 3) sc___init__.nd rfl (Or.inl rfl))) (fun _ _ _ _ _ => pts_nil) (fun _ _ _ _ _ => (pe_go O_equal_rows (hr.mono (by decide)) (by rfl) (pa_cons (pv 1) (pa_cons (pe_op op_rep (pe_lst (pa_cons pe_int pa_nil)) (pv 2)) pa_nil))))) rfl)
      (pss_cons (ps_fld (pv 0) (pe_go O_equal_rows (hr.mono (by decide)) (by rfl) (pa_cons (pv 1) (pa_cons (pe_op op_rep (pe_lst (pa_cons (pe_globR (by rfl) T.m_ZERO) pa_nil)) (pv 2)) pa_nil))) rfl)
      (pss_cons (ps_fld (pv 0) (pe_op op_rep (pe_lst (pa_cons pe_int pa_nil)) (pv 1)) rfl)
      (pss_one (ps_fld (pv 0) (pe_go O_equal_rows (hr.mono (by decide)) (by rfl) (pa_cons (pv 1) (pa_cons (pe_op op_rep (pe_lst (pa_cons pe_int pa_nil)) (pv 2)) pa_nil))) rfl)))))))), ?_⟩)
  · first | (obtain ⟨_, rfl, _⟩ := h; rfl) | (obtain ⟨_, _, rfl, _⟩ := h; rfl) | (obtain ⟨_, _, _, rfl, _⟩ := h; rfl) | (obtain ⟨_, _, _, _, rfl, _⟩ := h; rfl) | (obtain ⟨_, _, _, _, _, rfl, _⟩ := h; rfl) | (obtain ⟨_, _, _, _, _, _, rfl, _⟩ := h; rfl) | (obtain ⟨_, _, _, _, _, _, _, rfl, _⟩ := h; rfl) | (obtain ⟨_, _, _, _, _, _, _, _, rfl, _⟩ := h; rfl) | (obtain ⟨_, _, _, _, _, _, _, _, _, rfl, _⟩ := h; rfl) | (obtain ⟨_, _, _, _, _, _, _, _, _, _, rfl, _⟩ := h; rfl) | (obtain ⟨_, _, _, _, _, _, _, _, _, _, _, rfl, _⟩ := h; rfl) | (obtain ⟨_, _, _, _, _, _, _, _, _, _, _, _, rfl, _⟩ := h; rfl) | (obtain ⟨_, _, _, _, _, _, _, _, _, _, _, _, _, rfl, _⟩ := h; rfl)

  · obtain ⟨x, dx, n, k, rfl, n1, n6, k1, k5, hx, kq⟩ := h
    have U0 : Und C H x dx [] H := ⟨hx, fun b o z _ => z⟩
    repeat wtm_at "lwst"
    refine st_asF U0 T.cl T.n_contexts (by decide) rfl fun U1 => ?_
    repeat wtm_at "lwst"
    refine st_asF U1 T.cl T.n_actions (by show 1 < 1000; decide) (put_new ["contexts"] rfl (by decide +kernel)) fun U2 => ?_
    repeat wtm_at "lwst"
    refine new_l (by simp) fun ev H3 evn e3 hev => ?_
    repeat wtm_at "lwst"
    have V2 := U2.up e3
    refine st_asF V2 T.cl T.n_events (by show 2 < 1000; decide) (put_new ["contexts", "actions"] rfl (by decide +kernel)) fun U3 => ?_
    have hev3 := (upd_ne (o := HO.ins C dx [("contexts", V.int (n : Int)), ("actions", V.int (k : Int)), ("events", V.ref ev)]) (born U2.at_ evn)).trans hev
    repeat wtm_at "lwst"
    refine go_lcRI (Iv := fun D i acc H1 => ∃ ps, acc = ps.map V.ref ∧ Pols (fun p => (upd H3 x (HO.ins C dx [("contexts", V.int (n : Int)), ("actions", V.int (k : Int)), ("events", V.ref ev)])) p = none) (fun _ => True) H1 D ps (List.replicate k (V.int 1)) n) (n := 3) (by decide) (fun D hD => ⟨[], rfl, List.nodup_nil, fun p hp => by cases hp⟩) (fun D i acc H1 hi hD e hacc hl ⟨ps, hps, hP⟩ Q' kq => ?_) (fun po H4 ws pon e4 hpo hl ⟨ps, hps, hP⟩ => ?_)
    · repeat wtm_at "lwst"
      refine ⟨rfl, ?_⟩
      repeat wtm_at "lwst"
      refine new_l (by simp) fun p1 Ha h1n ea h1 => ?_
      repeat wtm_at "lwst"
      refine st_rep h1 (by omega) (by simp) fun p2 Hb h2n eb h2 => ?_
      repeat wtm_at "lwst"
      rw [rep_one] at h2
      refine ⟨n, p2, _, rfl, n6, SqL.of h2, fun D2 Hc hc ec hR => ?_⟩
      have e1b := ea.trans eb
      have hDb := e1b _ _ hacc
      have P4 := hP.up (e1b.trans ec)
      refine kq _ Hc (e1b.trans ec) ⟨ps ++ [D2], by rw [hps, List.map_append]; rfl, ?_, fun p hp => ?_⟩
      · refine List.nodup_append.mpr ⟨hP.1, by simp, fun a ha b hb => ?_⟩
        obtain rfl := List.mem_singleton.mp hb
        obtain ⟨ws, hw⟩ := (hP.up e1b).some ha
        exact (born hw hc).symm
      · rcases List.mem_append.mp hp with h | h
        · obtain ⟨x1, x2, x3⟩ := P4.2 p h
          exact ⟨x1, x2, x3.updN x1 fun q z _ => z.1⟩
        · obtain rfl := List.mem_singleton.mp h
          have ne := born hDb hc
          exact ⟨ne, (e.trans e1b).free hc, (hR.mono (G' := fun q => q ≠ D ∧ True) fun q z _ => ⟨born hDb z, trivial⟩).updN ne fun q z _ => z.1⟩
    · repeat wtm_at "lwst"
      rw [hps] at hpo
      have hev4 := e4 _ _ hev3
      have V3 := U3.up e4
      refine st_asF V3 T.cl T.n_policies (by show 3 < 1000; decide) (put_new ["contexts", "actions", "events"] rfl (by decide +kernel)) fun U4 => ?_
      generalize hO4 : HO.ins C dx _ = O4 at U4 ⊢
      have nx4 : ∀ {b : Addr} {l : List V}, H4 b = some (.lst l) → b ≠ x := fun h e => by rw [e, V3.at_] at h; cases h
      have hP5 := hP.updI (o := O4) V3.at_
      have hpo5 := (upd_ne (o := O4) (nx4 hpo)).trans hpo
      have hev5 := (upd_ne (o := O4) (nx4 hev4)).trans hev4
      have po_ev := born hev3 pon
      have ps_ev : ∀ p ∈ ps, p ≠ ev := fun p hp => born hev3 (hP.2 p hp).2.1
      repeat wtm_at "lwst"
      refine new_l (by simp) fun p1 Ha h1n ea h1 => ?_
      repeat wtm_at "lwst"
      refine st_rep h1 (by omega) (by simp) fun p2 Hb h2n eb h2 => ?_
      repeat wtm_at "lwst"
      rw [rep_one] at h2
      refine ⟨n, p2, _, rfl, n6, SqL.of h2, fun mo Hc hc ec hM => ?_⟩
      have eab := ea.trans eb
      have pob := eab _ _ hpo5
      have mo_po := born pob hc
      have mo_ev := born (eab _ _ hev5) hc
      have hPb := (hP5.up eab).off hc
      have hM2 : Rows (fun q => q ≠ po ∧ q ∉ ps) Hc mo _ n := hM.mono fun q z _ => ⟨born pob z, fun hq => by
        obtain ⟨ws, hw⟩ := (hP5.up eab).some hq
        exact born hw z rfl⟩
      have V4 := U4.up (eab.trans ec)
      repeat wtm_at "lwst"
      refine st_asF V4 T.cl T.n_model (by show 4 < 1000; decide) (put_new ["contexts", "actions", "events", "policies"] rfl (by decide +kernel)) fun U5 => ?_
      have nx5 : ∀ {b : Addr} {l : List V}, Hc b = some (.lst l) → b ≠ x := fun h e => by rw [e, V4.at_] at h; cases h
      generalize hO5 : HO.ins C dx _ = O5 at U5 ⊢
      have hP6 := (hPb.up ec).updI (o := O5) V4.at_
      have hpo6 := (upd_ne (o := O5) (nx5 (ec _ _ pob))).trans (ec _ _ pob)
      have hev6 := (upd_ne (o := O5) (nx5 (ec _ _ (eab _ _ hev5)))).trans (ec _ _ (eab _ _ hev5))
      have hM6 := hM2.updI (o := O5) V4.at_
      repeat wtm_at "lwst"
      refine new_l (by simp) fun p3 Hd h3n ed h3 => ?_
      repeat wtm_at "lwst"
      refine st_rep h3 (by omega) (by simp) fun tw He twn ee htw => ?_
      rw [rep_one] at htw
      have tw_po := born (ed _ _ hpo6) twn
      have tw_ev := born (ed _ _ hev6) twn
      have hP7 := ((hP6.up ed).off twn).up ee
      have tw_mo := ((hM6.up ed).ne twn).symm
      have hM7 := ((hM6.up ed).off twn).up ee
      have hpo7 := ee _ _ (ed _ _ hpo6)
      have hev7 := ee _ _ (ed _ _ hev6)
      have V5 := U5.up (ed.trans ee)
      repeat wtm_at "lwst"
      refine st_asF V5 T.cl T.n_truth_weights (by show 5 < 1000; decide) (put_new ["contexts", "actions", "events", "policies", "model"] rfl (by decide +kernel)) fun U6 => ?_
      have nx6 : ∀ {b : Addr} {l : List V}, He b = some (.lst l) → b ≠ x := fun h e => by rw [e, V5.at_] at h; cases h
      generalize hO6 : HO.ins C dx _ = O6 at U6 ⊢
      have hP8 := hP7.updI (o := O6) V5.at_
      have hpo8 := (upd_ne (o := O6) (nx6 hpo7)).trans hpo7
      have hev8 := (upd_ne (o := O6) (nx6 hev7)).trans hev7
      have htw8 := (upd_ne (o := O6) (nx6 htw)).trans htw
      have hM8 := hM7.updI (o := O6) V5.at_
      repeat wtm_at "lwst"
      refine new_l (by simp) fun p4 Hf h4n ef h4 => ?_
      repeat wtm_at "lwst"
      refine st_rep h4 (by omega) (by simp) fun p5 Hg h5n eg h5 => ?_
      repeat wtm_at "lwst"
      rw [rep_one] at h5
      have efg := ef.trans eg
      refine ⟨n, p5, _, rfl, n6, SqL.of h5, fun tr Hh hh eh hT => ?_⟩
      have tr_po := born (efg _ _ hpo8) hh
      have tr_ev := born (efg _ _ hev8) hh
      have tr_tw := born (efg _ _ htw8) hh
      have tr_mo := ((hM8.up efg).ne hh).symm
      have hM9 := ((hM8.up efg).off hh).up eh
      have hP9 := ((hP8.up efg).off hh).up eh
      have hpo9 := eh _ _ (efg _ _ hpo8)
      have hev9 := eh _ _ (efg _ _ hev8)
      have htw9 := eh _ _ (efg _ _ htw8)
      have hT9 : Rows (fun q => q ≠ po ∧ q ∉ ps ∧ q ≠ mo ∧ q ≠ tw) Hh tr _ n := hT.mono fun q z _ => ⟨born (efg _ _ hpo8) z, fun hq => by
        obtain ⟨ws, hw⟩ := (hP8.up efg).some hq
        exact born hw z rfl, ((hM8.up efg).ne z).symm, born (efg _ _ htw8) z⟩
      have V6 := U6.up (efg.trans eh)
      repeat wtm_at "lwst"
      refine st_asF V6 T.cl T.n_truth_rewards (by show 6 < 1000; decide) (put_new ["contexts", "actions", "events", "policies", "model", "truth_weights"] rfl (by decide +kernel)) fun U7 => ?_
      have nx7 : ∀ {b : Addr} {l : List V}, Hh b = some (.lst l) → b ≠ x := fun h e => by rw [e, V6.at_] at h; cases h
      generalize hO7 : HO.ins C dx _ = O7 at U7 ⊢
      have hPZ := hP9.updI (o := O7) V6.at_
      have hpoZ := (upd_ne (o := O7) (nx7 hpo9)).trans hpo9
      have hevZ := (upd_ne (o := O7) (nx7 hev9)).trans hev9
      have htwZ := (upd_ne (o := O7) (nx7 htw9)).trans htw9
      have hMZ := hM9.updI (o := O7) V6.at_
      have hTZ := hT9.updI (o := O7) V6.at_
      have lps : ps.length = 3 := by rw [← hl, hps, List.length_map]
      clear hP5 hP6 hP7 hP8 hP9 hM hM2 hM6 hM7 hM8 hM9 hT hT9 hPb
      have x_of : ∀ {b : Addr} {l : List V}, upd Hh x O7 b = some (.lst l) → b ≠ x := fun h e => by
        rw [e, U7.at_] at h
        cases h
      have x_po := x_of hpoZ
      have x_tw := x_of htwZ
      have x_ev := x_of hevZ
      have x_mo : mo ≠ x := x_of hMZ.choose_spec.1
      have x_tr : tr ≠ x := x_of hTZ.choose_spec.1
      have x_ps : x ∉ ps := fun h => by
        obtain ⟨ws, hw⟩ := hPZ.some h
        exact x_of hw rfl
      have ps_row : ∀ (q : Addr) (j : Nat), upd Hh x O7 q = some (.lst (List.replicate k (V.int (j : Int)))) → q ∉ ps := fun q j hq h => by
        obtain ⟨_, _, ws, a, b, c⟩ := hPZ.2 q h
        rw [hq] at a
        cases a
        exact ref_ne_int n1 (fun w hw => let ⟨q, e, _⟩ := c w hw; ⟨q, e⟩) b (fun y hy => ⟨_, List.eq_of_mem_replicate hy⟩) rfl
      have old : ∀ b o, H b = some o → b ≠ x → upd Hh x O7 b = some o := U7.old
      refine kq _ ⟨x, dx, ev, po, ps, mo, tw, tr⟩ rfl ⟨U7.at_, ?_, ⟨[], hevZ, .nil⟩, hpoZ, ?_, ?_, ?_, ?_, ?_⟩ old ?_
      · show ev ∉ x :: po :: mo :: tw :: tr :: ps
        simp only [List.mem_cons, not_or]
        exact ⟨x_ev, po_ev.symm, mo_ev.symm, tw_ev.symm, tr_ev.symm, fun h => ps_ev _ h rfl⟩
      · refine all2_reps lps fun p hp => ?_
        obtain ⟨_, _, ws, a, b, c⟩ := hPZ.2 p hp
        refine ⟨ws, a, all2_reps b fun w hw => ?_⟩
        obtain ⟨q, rfl, h1, h2, h3⟩ := c w hw
        refine ⟨q, rfl, ?_, ?_⟩
        · show q ∉ x :: po :: mo :: tw :: tr :: ps
          simp only [List.mem_cons, not_or]
          exact ⟨x_of h3, h2.1, h2.2.1.1.2, h2.2.1.2, h2.2.2, ps_row q 1 h3⟩
        · exact h3.trans (by rw [← rep_nz]; rfl)
      · obtain ⟨ws, a, b, c⟩ := hMZ
        refine ⟨ws, a, all2_reps b fun w hw => ?_⟩
        obtain ⟨q, rfl, h1, h2, h3⟩ := c w hw
        refine ⟨q, _, rfl, ?_, h3, ?_⟩
        · show q ∉ x :: po :: mo :: tw :: tr :: ps
          simp only [List.mem_cons, not_or]
          exact ⟨x_of h3, h2.1.1.1, h1, h2.1.2, h2.2, h2.1.1.2⟩
        · exact all2_reps (by simp) fun w hw => by
            rw [List.eq_of_mem_replicate hw]
            exact ⟨az, rfl, T.z.sq _⟩
      · exact htwZ.trans (by show _ = some (HO.lst ((nz (List.replicate n 1)).map V.int)); rw [← rep_nz]; rfl)
      · obtain ⟨ws, a, b, c⟩ := hTZ
        refine ⟨ws, a, all2_reps b fun w hw => ?_⟩
        obtain ⟨q, rfl, h1, h2, h3⟩ := c w hw
        refine ⟨q, rfl, ?_, ?_⟩
        · show q ∉ x :: po :: mo :: tw :: tr :: ps
          simp only [List.mem_cons, not_or]
          exact ⟨x_of h3, h2.1, h2.2.2.1, h2.2.2.2, h1, h2.2.1⟩
        · exact h3.trans (by rw [← rep_nz]; rfl)
      · show (x :: po :: mo :: tw :: tr :: ps).Nodup
        simp only [List.nodup_cons, List.mem_cons, not_or]
        refine ⟨⟨x_po.symm, x_mo.symm, x_tw.symm, x_tr.symm, x_ps⟩, ⟨mo_po.symm, tw_po.symm, tr_po.symm, fun h => (hPZ.2 _ h).1 rfl⟩, ⟨tw_mo.symm, tr_mo.symm, fun h => (hPZ.2 _ h).2.1.1.1.2 rfl⟩, ⟨tr_tw.symm, fun h => (hPZ.2 _ h).2.1.1.2 rfl⟩, fun h => (hPZ.2 _ h).2.1.2 rfl, hPZ.1⟩
      · intro b hb
        have hb : b ∈ x :: po :: mo :: tw :: tr :: ps := hb
        simp only [List.mem_cons] at hb
        rcases hb with h | h | h | h | h | h
        · exact .inl h
        · rw [h]
          exact .inr (U3.none pon)
        · rw [h]
          exact .inr ((U4.up eab).none hc)
        · rw [h]
          exact .inr ((U5.up ed).none twn)
        · rw [h]
          exact .inr ((U6.up efg).none hh)
        · exact .inr (U3.none (hPZ.2 _ h).2.1.1.1.1)
end
end Lw

namespace Lw
open PySem PySem.Spec PyProof.Rows L2
local macro_rules | `(tactic| wtm_at "lwsame") => `(tactic| first
  | assumption | exact Same.refl _ | (refine Same.trans (by assumption) ?_; wtm_at "lwsame"))
local macro_rules | `(tactic| wtm_at "lwup") => `(tactic| first
  | assumption
  | ((with_reducible show SqT _ _ _ _); first | (refine sqT_up ?_ (by assumption); wtm_at "lwsame") | (refine KT.sq ?_ _; assumption) | (refine SqT.of ?_; wtm_at "lwup"))
  | ((with_reducible show SqL _ _ _ _); first | (refine sqL_up ?_ (by assumption); wtm_at "lwsame") | (refine SqL.of ?_; wtm_at "lwup"))
  | ((with_reducible show _ = some _); refine (show Same _ _ by wtm_at "lwsame") _ _ (by assumption))
  | ((with_reducible show Fq _ _ _ _); refine Fq.up ?_ (by assumption); wtm_at "lwsame")
  | ((with_reducible show Fs _ _ _ _); refine Fs.up ?_ (by assumption); wtm_at "lwsame")
  | ((with_reducible show Is _ _ _ _); refine Is.up ?_ (by assumption); wtm_at "lwsame")
  | ((with_reducible show Ns _ _ _ _); refine Ns.up ?_ (by assumption); wtm_at "lwsame")
  | ((with_reducible show Eq4 _ _ _ _); refine Eq4.up ?_ (by assumption); wtm_at "lwsame")
  | ((with_reducible show Evs _ _ _ _); refine Evs.up ?_ (by assumption); wtm_at "lwsame"))
local macro_rules | `(tactic| wtm_at "lwst2") => `(tactic| first
  | (with_reducible refine st_drop ?_)
  | (with_reducible refine st_par ?_)
  | (with_reducible refine st_par2 ?_)
  | (with_reducible refine st_un ?_)
  | (with_reducible refine st_rU ?_)
  | (with_reducible refine st_B ?_)
  | (with_reducible refine st_not ?_)
  | (with_reducible refine st_and ?_)
  | (with_reducible refine st_or ?_)
  | (with_reducible refine st_andV ?_)
  | (with_reducible refine st_orV ?_)
  | (with_reducible refine st_isB2 ?_)
  | (with_reducible refine st_ifE ?_)
  | (with_reducible refine st_yes ?_)
  | (with_reducible refine st_forL ?_)
  | (with_reducible refine st_forR ?_)
  | (with_reducible refine st_lcL ?_)
  | (with_reducible refine st_lcR ?_)
  | (with_reducible refine st_lcZ ?_)
  | (with_reducible refine st_bm ?_)
  | (with_reducible refine st_sfld ?_)
  | (with_reducible refine st_gsub ?_)
  | (with_reducible refine st_meth ?_)
  | (with_reducible refine st_sl ?_)
  | (with_reducible refine st_nopart ?_)
  | (with_reducible refine st_part ?_)
  | (with_reducible refine st_isI ?_)
  | (with_reducible refine st_rev ?_)
  | (with_reducible refine st_ckw ?_)
  | (with_reducible refine st_abs ?_)
  | ((with_reducible refine st_eq ?hh ?_); (case hh => exact rfl))
  | ((with_reducible refine st_ne ?hh ?_); (case hh => exact rfl))
  | ((with_reducible refine st_ixT (v := ?vv) (xs := ?xx) ?hh ?hi ?_); (case hh => wtm_at "lwup"); (case hi => exact rfl))
  | ((with_reducible refine st_gtup (xs := ?xx) ?hh ?hi ?_); (case hh => wtm_at "lwup"); (case hi => exact rfl)))
local macro_rules | `(tactic| wtm_at "lwst") => `(tactic| first
  | (with_reducible refine st_cons ?_)
  | ((with_reducible refine st_var (v := ?vv) ?hh ?_); (case hh => exact rfl))
  | (with_reducible refine st_nil ?_)
  | (with_reducible refine st_call ?_)
  | (with_reducible refine st_gname ?_)
  | (with_reducible refine st_c ?_)
  | (with_reducible refine st_seq ?_)
  | (with_reducible refine st_op ?_)
  | (with_reducible refine st_ret ?_)
  | (with_reducible refine st_lst ?_)
  | (with_reducible refine st_gcons ?_)
  | (with_reducible refine st_asg ?_)
  | (with_reducible refine st_isB ?_)
  | (with_reducible refine st_ifS ?_)
  | (with_reducible refine st_nx0 ?_)
  | (with_reducible refine st_test ?_)
  | (with_reducible refine st_fld ?_)
  | (with_reducible refine st_nx ?_)
  | (with_reducible refine st_rI0 ?_)
  | (with_reducible refine st_callB ?_)
  | (with_reducible refine st_gnil ?_)
  | (with_reducible refine st_tup ?_)
  | wtm_at "lwst2")

/-! ## The operations that change a study -/
theorem deed_go {K : PySem.W.Frag} {C : Addr} {H H1 : Hp} {Q : VK} {L L1 : Lay} {m : M} {n : Nat} {xs row : List Nat} {m' : M} {ans : List Int} (k : ∀ p H' L', Keep L H L' H' → St K C H' L' (onM m n xs row).1 → Wf (onM m n xs row).1 → H p = none → H' p = some (.lst ((onM m n xs row).2.map V.int)) → Q (.ref p) H')
    (h : onM m n xs row = (m', ans)) (kp : Keep L H L1 H1) (S : St K C H1 L1 m') (W : Wf m') : RetA H1 Q ans := fun p H2 hn e hp => by
  refine k p H2 L1 (kp.trans (.same e)) ?_ ?_ (kp.dom p hn) ?_
  · rw [h]
    exact S.up e
  · rw [h]
    exact W
  · rw [h]
    exact hp
section
variable {P : Program} {w : World} {K : PySem.W.Frag} {mg : Str → Option Value} {base : Heap} {az an aw d1 d2 d3 C : Addr}

theorem fl_eventsA {H : Hp} {L : Lay} {m : M} {Q : VK} {a : Addr} (T : Tx K mg az an aw d1 d2 d3 C) (S : St K C H L m) (e : L.a = a) (q : Q (.ref L.ev) H) : fld K "events" Q (.ref a) H := by
  subst e
  exact fl_events T S q
def sp_is_place (K : PySem.W.Frag) (C : Addr) : Sp := fun vs H Q _ => ∃ (L : Lay) (m : M) (c a : Nat), vs = [.ref L.a, .int (c : Int), .int (a : Int)] ∧ St K C H L m ∧ Q (.bl (isCtx m c && isAct m a)) H
abbrev s_is_place : Stmt := top 81
theorem sc_is_place : FnScope ["study", "context", "action"] ["study", "context", "action"] (defScope s_is_place) := ⟨rfl, rfl, rfl, by decide +kernel, rfl, by decide +kernel, by decide +kernel⟩
theorem ok_is_place (T : Tx K mg az an aw d1 d2 d3 C) (h : Has K mg "is_place" s_is_place ["study", "context", "action"]) (O_has_context : OkM P w K mg base C "has_context" 1 ["self", "context"] (sp_has_context K C)) (O_has_action : OkM P w K mg base C "has_action" 1 ["self", "action"] (sp_has_action K C)) :
    Ok P w K mg base "is_place" 2 ["study", "context", "action"] (sp_is_place K C) := by
  refine ok_of h sc_is_place (fun vs H Q E h => ?_) (fun f cdv A outer s H vs Q E hr h => ⟨_, (pss_one (ps_ret (pe_and (pe_goM (pv 0) T.cl O_has_context (hr.mono (by decide)) (pa_cons (pv 1) pa_nil)) (pe_one (pe_goM (pv 0) T.cl O_has_action (hr.mono (by decide)) (pa_cons (pv 2) pa_nil)))))), ?_⟩)
  · first | (obtain ⟨_, rfl, _⟩ := h; rfl) | (obtain ⟨_, _, rfl, _⟩ := h; rfl) | (obtain ⟨_, _, _, rfl, _⟩ := h; rfl) | (obtain ⟨_, _, _, _, rfl, _⟩ := h; rfl) | (obtain ⟨_, _, _, _, _, rfl, _⟩ := h; rfl) | (obtain ⟨_, _, _, _, _, _, rfl, _⟩ := h; rfl) | (obtain ⟨_, _, _, _, _, _, _, rfl, _⟩ := h; rfl) | (obtain ⟨_, _, _, _, _, _, _, _, rfl, _⟩ := h; rfl) | (obtain ⟨_, _, _, _, _, _, _, _, _, rfl, _⟩ := h; rfl) | (obtain ⟨_, _, _, _, _, _, _, _, _, _, rfl, _⟩ := h; rfl) | (obtain ⟨_, _, _, _, _, _, _, _, _, _, _, rfl, _⟩ := h; rfl) | (obtain ⟨_, _, _, _, _, _, _, _, _, _, _, _, rfl, _⟩ := h; rfl) | (obtain ⟨_, _, _, _, _, _, _, _, _, _, _, _, _, rfl, _⟩ := h; rfl)

  · obtain ⟨L, m, c, a, rfl, S, q⟩ := h
    repeat wtm_at "lwst"
    refine meth_go S (by decide +kernel) ?_
    repeat wtm_at "lwst"
    refine ⟨L, m, c, rfl, S, ?_⟩
    repeat wtm_at "lwst"
    refine cond_2 (fun c1 => ?_) (fun c1 => ?_)
    · rw [c1, Bool.true_and] at q
      repeat wtm_at "lwst"
      refine meth_go S (by decide +kernel) ?_
      repeat wtm_at "lwst"
      exact ⟨L, m, a, rfl, S, q⟩
    · rw [c1, Bool.false_and] at q
      exact q
def sp_add_event (K : PySem.W.Frag) (C : Addr) : Sp := Deed K C 1
abbrev s_add_event : Stmt := top 82
theorem sc_add_event : FnScope ["study", "numbers", "row", "context", "action", "reward", "above", "below"] ["study", "numbers", "row"] (defScope s_add_event) := ⟨rfl, rfl, rfl, by decide +kernel, rfl, by decide +kernel, by decide +kernel⟩
theorem ok_add_event (T : Tx K mg az an aw d1 d2 d3 C) (h : Has K mg "add_event" s_add_event ["study", "numbers", "row"]) (O_is_place : Ok P w K mg base "is_place" 2 ["study", "context", "action"] (sp_is_place K C)) (O_is_propensity : Ok P w K mg base "is_propensity" 1 ["above", "below"] (sp_is_propensity K C)) (O_quotient : Ok P w K mg base "quotient" 2 ["above", "below"] (sp_quotient K C)) (O_note_event : OkM P w K mg base C "note_event" 1 ["self", "event"] (sp_note_event K C)) :
    Ok P w K mg base "add_event" 3 ["study", "numbers", "row"] (sp_add_event K C) := by
  refine ok_of h sc_add_event (fun vs H Q E h => ?_) (fun f cdv A outer s H vs Q E hr h => ⟨_, (pss_cons (ps_asg (pv 1) (pg_unlK (K := K) (n := 5) rfl rfl (pgs_cons (pg_name (i := 3) sc_add_event.nd rfl (Or.inl rfl)) (pgs_cons (pg_name (i := 4) sc_add_event.nd rfl (Or.inl rfl)) (pgs_cons (pg_name (i := 5) sc_add_event.nd rfl (Or.inl rfl)) (pgs_cons (pg_name (i := 6) sc_add_event.nd rfl (Or.inl rfl)) (pgs_cons (pg_name (i := 7) sc_add_event.nd rfl (Or.inl rfl)) pgs_nil)))))))
      (pss_cons (ps_if (pt_not (pt_val (pe_go O_is_place (hr.mono (by decide)) (by rfl) (pa_cons (pv 0) (pa_cons (pv 3) (pa_cons (pv 4) pa_nil)))))) (pss_one (ps_ret (pe_lst (pa_cons (pe_globI (by rfl) T.m_NOT_THERE) pa_nil)))) pss_nil)
      (pss_cons (ps_if (PW.pt (pw_or (pt_cmpR op_gt (pv 5) (pe_globI (by rfl) T.m_MOST_REWARD) (nomark _)) (pw_or1 (pt_not (pt_val (pe_go O_is_propensity (hr.mono (by decide)) (by rfl) (pa_cons (pv 6) (pa_cons (pv 7) pa_nil)))))))) (pss_one (ps_ret (pe_lst (pa_cons (pe_globI (by rfl) T.m_OUTSIDE) pa_nil)))) pss_nil)
      (pss_cons (ps_if (pt_cmpR op_ge (pe_callB (cb_lenK (K := K) rfl) (by rfl) T.b_len PySem.boot_len (pa_cons (pe_fldK (K := K) rfl (pv 0) rfl) pa_nil)) (pe_globI (by rfl) T.m_MOST_EVENTS) (nomark _)) (pss_one (ps_ret (pe_lst (pa_cons (pe_globI (by rfl) T.m_FULL) pa_nil)))) pss_nil)
      (pss_cons (ps_expr (pe_goM (pv 0) T.cl O_note_event (hr.mono (by decide)) (pa_cons (pe_tup (pa_cons (pv 3) (pa_cons (pv 4) (pa_cons (pv 5) (pa_cons (pe_go O_quotient (hr.mono (by decide)) (by rfl) (pa_cons (pv 6) (pa_cons (pv 7) pa_nil))) pa_nil))))) pa_nil)))
      (pss_one (ps_ret (pe_lst (pa_cons (pe_callB (cb_lenK (K := K) rfl) (by rfl) T.b_len PySem.boot_len (pa_cons (pe_fldK (K := K) rfl (pv 0) rfl) pa_nil)) pa_nil))))))))), ?_⟩)
  · first | (obtain ⟨_, rfl, _⟩ := h; rfl) | (obtain ⟨_, _, rfl, _⟩ := h; rfl) | (obtain ⟨_, _, _, rfl, _⟩ := h; rfl) | (obtain ⟨_, _, _, _, rfl, _⟩ := h; rfl) | (obtain ⟨_, _, _, _, _, rfl, _⟩ := h; rfl) | (obtain ⟨_, _, _, _, _, _, rfl, _⟩ := h; rfl) | (obtain ⟨_, _, _, _, _, _, _, rfl, _⟩ := h; rfl) | (obtain ⟨_, _, _, _, _, _, _, _, rfl, _⟩ := h; rfl) | (obtain ⟨_, _, _, _, _, _, _, _, _, rfl, _⟩ := h; rfl) | (obtain ⟨_, _, _, _, _, _, _, _, _, _, rfl, _⟩ := h; rfl) | (obtain ⟨_, _, _, _, _, _, _, _, _, _, _, rfl, _⟩ := h; rfl) | (obtain ⟨_, _, _, _, _, _, _, _, _, _, _, _, rfl, _⟩ := h; rfl) | (obtain ⟨_, _, _, _, _, _, _, _, _, _, _, _, _, rfl, _⟩ := h; rfl)

  · obtain ⟨L, m, nv, rv, xs, row, rfl, S, W, ⟨p, rfl, hp⟩, hrow, ok, k⟩ := h
    obtain ⟨c, a, r, n, d, rfl⟩ := len5 ok.len
    have hp' : SqL K H p [.int (c : Int), .int (a : Int), .int (r : Int), .int (n : Int), .int (d : Int)] := hp
    repeat wtm_at "lwst"
    refine st_gunl hp' rfl ?_
    repeat wtm_at "lwst"
    refine ⟨L, m, c, a, rfl, S, ?_⟩
    repeat wtm_at "lwst"
    refine cond_2 (fun c1 => ?_) (fun c1 => ?_)
    · rw [Bool.not_eq_true'] at c1
      repeat wtm_at "lwst"
      exact ret_one (deed_read S W k (by show oAdd m c a r n d = _; unfold oAdd; rw [c1, if_neg (by simp)]))
    rw [Bool.not_eq_false'] at c1
    repeat wtm_at "lwst"
    refine cond_2 (fun c2 => ?_) (fun c2 => ?_)
    · repeat wtm_at "lwst"
      have c2 := of_decide_eq_true c2
      refine ret_one (deed_read S W k (by show oAdd m c a r n d = _; unfold oAdd; rw [if_pos c1, if_pos (by simp; omega)]))
    have c2 := of_decide_eq_false c2
    repeat wtm_at "lwst"
    refine ⟨n, d, rfl, ?_⟩
    repeat wtm_at "lwst"
    refine cond_2 (fun c3 => ?_) (fun c3 => ?_)
    · rw [Bool.not_eq_true'] at c3
      repeat wtm_at "lwst"
      refine ret_one (deed_read S W k (by show oAdd m c a r n d = _; unfold oAdd; rw [if_pos c1, if_pos (by simp [c3])]))
    rw [Bool.not_eq_false'] at c3
    have c23 : (decide (100 < r) || !isProp n d) = false := by rw [c3, decide_eq_false (by omega)]; rfl
    obtain ⟨es, hes, hxs⟩ := S.ev
    repeat wtm_at "lwst"
    refine fl_events T S ?_
    repeat wtm_at "lwst"
    refine st_len (SqL.of hes) ?_
    repeat wtm_at "lwst"
    rw [hxs.len]
    refine cond_2 (fun c4 => ?_) (fun c4 => ?_)
    · have c4 := of_decide_eq_true c4
      repeat wtm_at "lwst"
      refine ret_one (deed_read S W k (by show oAdd m c a r n d = _; unfold oAdd; rw [if_pos c1, c23, if_neg (by simp), if_pos (by omega)]))
    have c4 := of_decide_eq_false c4
    repeat wtm_at "lwst"
    refine meth_go S (by decide +kernel) ?_
    have cc : c < m.nc ∧ a < m.na := by
      rw [Bool.and_eq_true] at c1
      exact ⟨of_decide_eq_true c1.1, of_decide_eq_true c1.2⟩
    have cd : 1 ≤ n ∧ n ≤ d ∧ d ≤ 1000 := by
      unfold isProp at c3
      simp at c3
      exact c3
    repeat wtm_at "lwst"
    refine ⟨(n : Int), d, rfl, by omega, by
      refine Nat.lt_of_le_of_lt (Nat.log2_le_self d) ?_
      omega, fun v H2 e2 hv => ?_⟩
    repeat wtm_at "lwst"
    refine new_t (K := K) (by simp) fun t H3 e3 ht => ?_
    repeat wtm_at "lwst"
    refine ⟨L, m, _, ⟨c, a, r, mkRat (n : Int) d⟩, rfl, S.up (e2.trans e3), ⟨t, v, rfl, ht, hv.up e3⟩, by have := W.ev40; omega, fun H4 L4 kp S4 => ?_⟩
    repeat wtm_at "lwst"
    obtain ⟨es4, hes4, hxs4⟩ := S4.ev
    refine fl_eventsA T S4 kp.a ?_
    repeat wtm_at "lwst"
    refine st_len (SqL.of hes4) ?_
    repeat wtm_at "lwst"
    rw [hxs4.len]
    refine ret_one (deed_go (m' := { m with ev := m.ev ++ [⟨c, a, r, mkRat (n : Int) d⟩] }) (L1 := L4) k (by show oAdd m c a r n d = _; unfold oAdd; rw [if_pos c1, c23, if_neg (by simp), if_neg (by omega)]; simp) ((Keep.same (e2.trans e3)).trans kp) S4 (wf_add W (ev_add W cc.1 cc.2 (by omega) c3) (by omega)))
def sp_remove_last (K : PySem.W.Frag) (C : Addr) : Sp := Deed K C 2
abbrev s_remove_last : Stmt := top 83
theorem sc_remove_last : FnScope ["study", "numbers", "row"] ["study", "numbers", "row"] (defScope s_remove_last) := ⟨rfl, rfl, rfl, by decide +kernel, rfl, by decide +kernel, by decide +kernel⟩
theorem ok_remove_last (T : Tx K mg az an aw d1 d2 d3 C) (h : Has K mg "remove_last" s_remove_last ["study", "numbers", "row"]) (O_forget_last : OkM P w K mg base C "forget_last" 1 ["self"] (sp_forget_last K C)) :
    Ok P w K mg base "remove_last" 2 ["study", "numbers", "row"] (sp_remove_last K C) := by
  refine ok_of h sc_remove_last (fun vs H Q E h => ?_) (fun f cdv A outer s H vs Q E hr h => ⟨_, (pss_cons (ps_if (pt_cmpR (op_eqD hr.units) (pe_fldK (K := K) rfl (pv 0) rfl) (pe_lst pa_nil) (nomark _)) (pss_one (ps_ret (pe_lst (pa_cons (pe_globI (by rfl) T.m_NOT_ENOUGH) pa_nil)))) pss_nil)
      (pss_cons (ps_expr (pe_goM0 (pv 0) T.cl O_forget_last (hr.mono (by decide))))
      (pss_one (ps_ret (pe_lst (pa_cons (pe_callB (cb_lenK (K := K) rfl) (by rfl) T.b_len PySem.boot_len (pa_cons (pe_fldK (K := K) rfl (pv 0) rfl) pa_nil)) pa_nil)))))), ?_⟩)
  · first | (obtain ⟨_, rfl, _⟩ := h; rfl) | (obtain ⟨_, _, rfl, _⟩ := h; rfl) | (obtain ⟨_, _, _, rfl, _⟩ := h; rfl) | (obtain ⟨_, _, _, _, rfl, _⟩ := h; rfl) | (obtain ⟨_, _, _, _, _, rfl, _⟩ := h; rfl) | (obtain ⟨_, _, _, _, _, _, rfl, _⟩ := h; rfl) | (obtain ⟨_, _, _, _, _, _, _, rfl, _⟩ := h; rfl) | (obtain ⟨_, _, _, _, _, _, _, _, rfl, _⟩ := h; rfl) | (obtain ⟨_, _, _, _, _, _, _, _, _, rfl, _⟩ := h; rfl) | (obtain ⟨_, _, _, _, _, _, _, _, _, _, rfl, _⟩ := h; rfl) | (obtain ⟨_, _, _, _, _, _, _, _, _, _, _, rfl, _⟩ := h; rfl) | (obtain ⟨_, _, _, _, _, _, _, _, _, _, _, _, rfl, _⟩ := h; rfl) | (obtain ⟨_, _, _, _, _, _, _, _, _, _, _, _, _, rfl, _⟩ := h; rfl)

  · obtain ⟨L, m, nv, rv, xs, row, rfl, S, W, ⟨p, rfl, hp⟩, hrow, ok, k⟩ := h
    obtain rfl := len0 ok.len
    obtain ⟨es, hes, hxs⟩ := S.ev
    repeat wtm_at "lwst"
    refine fl_events T S ?_
    repeat wtm_at "lwst"
    refine new_l (by simp) fun p1 H1 h1n e1 h1 => ?_
    repeat wtm_at "lwst"
    refine st_eqNilE (SqL.of (e1 _ _ hes)) (hxs.imp fun _ _ q => q.up e1) h1 ?_
    repeat wtm_at "lwst"
    have S1 := S.up e1
    refine cond_2 (fun c1 => ?_) (fun c1 => ?_)
    · rw [List.isEmpty_iff] at c1
      repeat wtm_at "lwst"
      refine ret_one ((deed_read S W k (by show oRemove m = _; unfold oRemove; rw [if_pos c1])).go e1)
    have c1 : m.ev ≠ [] := fun z => by rw [z] at c1; cases c1
    repeat wtm_at "lwst"
    refine meth_go S1 (by decide +kernel) ?_
    repeat wtm_at "lwst"
    refine ⟨L, m, rfl, S1, c1, fun H4 L4 kp S4 => ?_⟩
    repeat wtm_at "lwst"
    obtain ⟨es4, hes4, hxs4⟩ := S4.ev
    refine fl_eventsA T S4 kp.a ?_
    repeat wtm_at "lwst"
    refine st_len (SqL.of hes4) ?_
    repeat wtm_at "lwst"
    rw [hxs4.len]
    refine ret_one (deed_go (m' := { m with ev := m.ev.dropLast }) (L1 := L4) k (by show oRemove m = _; unfold oRemove; rw [if_neg c1]; simp) ((Keep.same e1).trans kp) S4 (wf_remove W))
def sp_log_event (K : PySem.W.Frag) (C : Addr) : Sp := Deed K C 3
abbrev s_log_event : Stmt := top 84
theorem sc_log_event : FnScope ["study", "numbers", "row", "policy", "context", "action", "reward", "propensity"] ["study", "numbers", "row"] (defScope s_log_event) := ⟨rfl, rfl, rfl, by decide +kernel, rfl, by decide +kernel, by decide +kernel⟩
theorem ok_log_event (T : Tx K mg az an aw d1 d2 d3 C) (h : Has K mg "log_event" s_log_event ["study", "numbers", "row"]) (O_probability : Ok P w K mg base "probability" 3 ["study", "policy", "context", "action"] (sp_probability K C)) (O_is_policy : Ok P w K mg base "is_policy" 2 ["policy"] (sp_is_policy K C)) (O_is_place : Ok P w K mg base "is_place" 2 ["study", "context", "action"] (sp_is_place K C)) (O_note_event : OkM P w K mg base C "note_event" 1 ["self", "event"] (sp_note_event K C)) :
    Ok P w K mg base "log_event" 4 ["study", "numbers", "row"] (sp_log_event K C) := by
  refine ok_of h sc_log_event (fun vs H Q E h => ?_) (fun f cdv A outer s H vs Q E hr h => ⟨_, (pss_cons (ps_asg (pv 1) (pg_unlK (K := K) (n := 4) rfl rfl (pgs_cons (pg_name (i := 3) sc_log_event.nd rfl (Or.inl rfl)) (pgs_cons (pg_name (i := 4) sc_log_event.nd rfl (Or.inl rfl)) (pgs_cons (pg_name (i := 5) sc_log_event.nd rfl (Or.inl rfl)) (pgs_cons (pg_name (i := 6) sc_log_event.nd rfl (Or.inl rfl)) pgs_nil))))))
      (pss_cons (ps_if (PW.pt (pw_or (pt_not (pt_val (pe_go O_is_policy (hr.mono (by decide)) (by rfl) (pa_cons (pv 3) pa_nil)))) (pw_or1 (pt_not (pt_val (pe_go O_is_place (hr.mono (by decide)) (by rfl) (pa_cons (pv 0) (pa_cons (pv 4) (pa_cons (pv 5) pa_nil))))))))) (pss_one (ps_ret (pe_lst (pa_cons (pe_globI (by rfl) T.m_NOT_THERE) pa_nil)))) pss_nil)
      (pss_cons (ps_if (pt_cmpR op_gt (pv 6) (pe_globI (by rfl) T.m_MOST_REWARD) (nomark _)) (pss_one (ps_ret (pe_lst (pa_cons (pe_globI (by rfl) T.m_OUTSIDE) pa_nil)))) pss_nil)
      (pss_cons (ps_set (i := 7) sc_log_event.nd rfl (Or.inl rfl) (pe_go O_probability (hr.mono (by decide)) (by rfl) (pa_cons (pv 0) (pa_cons (pv 3) (pa_cons (pv 4) (pa_cons (pv 5) pa_nil))))))
      (pss_cons (ps_if (pt_cmpR op_eq (pe_ix (ix_tupK (K := K) rfl) (pv 7) pe_int (fun _ _ => rfl)) pe_int (nomark _)) (pss_one (ps_ret (pe_lst (pa_cons (pe_globI (by rfl) T.m_NOT_ENOUGH) pa_nil)))) pss_nil)
      (pss_cons (ps_if (pt_cmpR op_ge (pe_callB (cb_lenK (K := K) rfl) (by rfl) T.b_len PySem.boot_len (pa_cons (pe_fldK (K := K) rfl (pv 0) rfl) pa_nil)) (pe_globI (by rfl) T.m_MOST_EVENTS) (nomark _)) (pss_one (ps_ret (pe_lst (pa_cons (pe_globI (by rfl) T.m_FULL) pa_nil)))) pss_nil)
      (pss_cons (ps_expr (pe_goM (pv 0) T.cl O_note_event (hr.mono (by decide)) (pa_cons (pe_tup (pa_cons (pv 4) (pa_cons (pv 5) (pa_cons (pv 6) (pa_cons (pv 7) pa_nil))))) pa_nil)))
      (pss_one (ps_ret (pe_lst (pa_cons (pe_callB (cb_lenK (K := K) rfl) (by rfl) T.b_len PySem.boot_len (pa_cons (pe_fldK (K := K) rfl (pv 0) rfl) pa_nil)) pa_nil))))))))))), ?_⟩)
  · first | (obtain ⟨_, rfl, _⟩ := h; rfl) | (obtain ⟨_, _, rfl, _⟩ := h; rfl) | (obtain ⟨_, _, _, rfl, _⟩ := h; rfl) | (obtain ⟨_, _, _, _, rfl, _⟩ := h; rfl) | (obtain ⟨_, _, _, _, _, rfl, _⟩ := h; rfl) | (obtain ⟨_, _, _, _, _, _, rfl, _⟩ := h; rfl) | (obtain ⟨_, _, _, _, _, _, _, rfl, _⟩ := h; rfl) | (obtain ⟨_, _, _, _, _, _, _, _, rfl, _⟩ := h; rfl) | (obtain ⟨_, _, _, _, _, _, _, _, _, rfl, _⟩ := h; rfl) | (obtain ⟨_, _, _, _, _, _, _, _, _, _, rfl, _⟩ := h; rfl) | (obtain ⟨_, _, _, _, _, _, _, _, _, _, _, rfl, _⟩ := h; rfl) | (obtain ⟨_, _, _, _, _, _, _, _, _, _, _, _, rfl, _⟩ := h; rfl) | (obtain ⟨_, _, _, _, _, _, _, _, _, _, _, _, _, rfl, _⟩ := h; rfl)

  · obtain ⟨L, m, nv, rv, xs, row, rfl, S, W, ⟨p, rfl, hp⟩, hrow, ok, k⟩ := h
    obtain ⟨g, c, a, r, rfl⟩ := len4 ok.len
    have hp' : SqL K H p [.int (g : Int), .int (c : Int), .int (a : Int), .int (r : Int)] := hp
    repeat wtm_at "lwst"
    refine st_gunl hp' rfl ?_
    repeat wtm_at "lwst"
    refine ⟨g, rfl, ?_⟩
    repeat wtm_at "lwst"
    refine cond_2 (fun c0 => ?_) (fun c0 => ?_)
    · rw [Bool.not_eq_true'] at c0
      repeat wtm_at "lwst"
      exact ret_one (deed_read S W k (by show oLog m g c a r = _; unfold oLog; rw [c0, if_neg (by simp)]))
    rw [Bool.not_eq_false'] at c0
    repeat wtm_at "lwst"
    refine ⟨L, m, c, a, rfl, S, ?_⟩
    repeat wtm_at "lwst"
    refine cond_2 (fun c1 => ?_) (fun c1 => ?_)
    · rw [Bool.not_eq_true'] at c1
      repeat wtm_at "lwst"
      exact ret_one (deed_read S W k (by show oLog m g c a r = _; unfold oLog; rw [c0, c1, if_neg (by simp)]))
    rw [Bool.not_eq_false'] at c1
    have c01 : (isPol g && (isCtx m c && isAct m a)) = true := by rw [c0, c1]; rfl
    have cc : c < m.nc ∧ a < m.na := by
      rw [Bool.and_eq_true] at c1
      exact ⟨of_decide_eq_true c1.1, of_decide_eq_true c1.2⟩
    repeat wtm_at "lwst"
    refine cond_2 (fun c2 => ?_) (fun c2 => ?_)
    · repeat wtm_at "lwst"
      have c2 := of_decide_eq_true c2
      refine ret_one (deed_read S W k (by show oLog m g c a r = _; unfold oLog; rw [if_pos c01, if_pos (by omega)]))
    have c2 := of_decide_eq_false c2
    repeat wtm_at "lwst"
    refine ⟨L, m, g, c, a, rfl, S, W, pol_lt c0, cc.1, cc.2, fun v H2 e2 hv => ?_⟩
    repeat wtm_at "lwst"
    obtain ⟨vp, rfl, hvp⟩ := id hv
    refine st_ixT hvp (by rfl) ?_
    repeat wtm_at "lwst"
    have S2 := S.up e2
    refine cond_2 (fun c3 => ?_) (fun c3 => ?_)
    · have c3 : chance m g c a = 0 := by
        have := of_decide_eq_true c3
        have h0 : (chance m g c a).num = 0 := by simpa using this
        exact Rat.num_eq_zero.mp h0
      repeat wtm_at "lwst"
      refine ret_one ((deed_read S W k (by show oLog m g c a r = _; unfold oLog; rw [if_pos c01, if_neg (by omega), if_pos c3])).go e2)
    have c3 : chance m g c a ≠ 0 := fun z => by
      rw [z] at c3
      exact absurd c3 (by decide)
    obtain ⟨es, hes, hxs⟩ := S2.ev
    repeat wtm_at "lwst"
    refine fl_events T S2 ?_
    repeat wtm_at "lwst"
    refine st_len (SqL.of hes) ?_
    repeat wtm_at "lwst"
    rw [hxs.len]
    refine cond_2 (fun c4 => ?_) (fun c4 => ?_)
    · have c4 := of_decide_eq_true c4
      repeat wtm_at "lwst"
      refine ret_one ((deed_read S W k (by show oLog m g c a r = _; unfold oLog; rw [if_pos c01, if_neg (by omega), if_neg c3, if_pos (by omega)])).go e2)
    have c4 := of_decide_eq_false c4
    repeat wtm_at "lwst"
    refine meth_go S2 (by decide +kernel) ?_
    repeat wtm_at "lwst"
    refine new_t (K := K) (by simp) fun t H3 e3 ht => ?_
    repeat wtm_at "lwst"
    refine ⟨L, m, _, ⟨c, a, r, chance m g c a⟩, rfl, S2.up e3, ⟨t, _, rfl, ht, hv.up e3⟩, by have := W.ev40; omega, fun H4 L4 kp S4 => ?_⟩
    repeat wtm_at "lwst"
    obtain ⟨es4, hes4, hxs4⟩ := S4.ev
    refine fl_eventsA T S4 kp.a ?_
    repeat wtm_at "lwst"
    refine st_len (SqL.of hes4) ?_
    repeat wtm_at "lwst"
    rw [hxs4.len]
    refine ret_one (deed_go (m' := { m with ev := m.ev ++ [⟨c, a, r, chance m g c a⟩] }) (L1 := L4) k (by show oLog m g c a r = _; unfold oLog; rw [if_pos c01, if_neg (by omega), if_neg c3, if_neg (by omega)]; simp) ((Keep.same (e2.trans e3)).trans kp) S4 (wf_add W (ev_log W (pol_lt c0) cc.1 cc.2 (by omega) c3) (by omega)))
end
end Lw

namespace Lw
open PySem PySem.Spec PyProof.Rows L2
local macro_rules | `(tactic| wtm_at "lwsame") => `(tactic| first
  | assumption | exact Same.refl _ | (refine Same.trans (by assumption) ?_; wtm_at "lwsame"))
local macro_rules | `(tactic| wtm_at "lwup") => `(tactic| first
  | assumption
  | ((with_reducible show SqT _ _ _ _); first | (refine sqT_up ?_ (by assumption); wtm_at "lwsame") | (refine KT.sq ?_ _; assumption) | (refine SqT.of ?_; wtm_at "lwup"))
  | ((with_reducible show SqL _ _ _ _); first | (refine sqL_up ?_ (by assumption); wtm_at "lwsame") | (refine SqL.of ?_; wtm_at "lwup"))
  | ((with_reducible show _ = some _); refine (show Same _ _ by wtm_at "lwsame") _ _ (by assumption))
  | ((with_reducible show Fq _ _ _ _); refine Fq.up ?_ (by assumption); wtm_at "lwsame")
  | ((with_reducible show Fs _ _ _ _); refine Fs.up ?_ (by assumption); wtm_at "lwsame")
  | ((with_reducible show Is _ _ _ _); refine Is.up ?_ (by assumption); wtm_at "lwsame")
  | ((with_reducible show Ns _ _ _ _); refine Ns.up ?_ (by assumption); wtm_at "lwsame")
  | ((with_reducible show Eq4 _ _ _ _); refine Eq4.up ?_ (by assumption); wtm_at "lwsame")
  | ((with_reducible show Evs _ _ _ _); refine Evs.up ?_ (by assumption); wtm_at "lwsame"))
local macro_rules | `(tactic| wtm_at "lwst2") => `(tactic| first
  | (with_reducible refine st_drop ?_)
  | (with_reducible refine st_par ?_)
  | (with_reducible refine st_par2 ?_)
  | (with_reducible refine st_un ?_)
  | (with_reducible refine st_rU ?_)
  | (with_reducible refine st_B ?_)
  | (with_reducible refine st_not ?_)
  | (with_reducible refine st_and ?_)
  | (with_reducible refine st_or ?_)
  | (with_reducible refine st_andV ?_)
  | (with_reducible refine st_orV ?_)
  | (with_reducible refine st_isB2 ?_)
  | (with_reducible refine st_ifE ?_)
  | (with_reducible refine st_yes ?_)
  | (with_reducible refine st_forL ?_)
  | (with_reducible refine st_forR ?_)
  | (with_reducible refine st_lcL ?_)
  | (with_reducible refine st_lcR ?_)
  | (with_reducible refine st_lcZ ?_)
  | (with_reducible refine st_bm ?_)
  | (with_reducible refine st_sfld ?_)
  | (with_reducible refine st_gsub ?_)
  | (with_reducible refine st_meth ?_)
  | (with_reducible refine st_sl ?_)
  | (with_reducible refine st_nopart ?_)
  | (with_reducible refine st_part ?_)
  | (with_reducible refine st_isI ?_)
  | (with_reducible refine st_rev ?_)
  | (with_reducible refine st_ckw ?_)
  | (with_reducible refine st_abs ?_)
  | ((with_reducible refine st_eq ?hh ?_); (case hh => exact rfl))
  | ((with_reducible refine st_ne ?hh ?_); (case hh => exact rfl))
  | ((with_reducible refine st_ixT (v := ?vv) (xs := ?xx) ?hh ?hi ?_); (case hh => wtm_at "lwup"); (case hi => exact rfl))
  | ((with_reducible refine st_gtup (xs := ?xx) ?hh ?hi ?_); (case hh => wtm_at "lwup"); (case hi => exact rfl)))
local macro_rules | `(tactic| wtm_at "lwst") => `(tactic| first
  | (with_reducible refine st_cons ?_)
  | ((with_reducible refine st_var (v := ?vv) ?hh ?_); (case hh => exact rfl))
  | (with_reducible refine st_nil ?_)
  | (with_reducible refine st_call ?_)
  | (with_reducible refine st_gname ?_)
  | (with_reducible refine st_c ?_)
  | (with_reducible refine st_seq ?_)
  | (with_reducible refine st_op ?_)
  | (with_reducible refine st_ret ?_)
  | (with_reducible refine st_lst ?_)
  | (with_reducible refine st_gcons ?_)
  | (with_reducible refine st_asg ?_)
  | (with_reducible refine st_isB ?_)
  | (with_reducible refine st_ifS ?_)
  | (with_reducible refine st_nx0 ?_)
  | (with_reducible refine st_test ?_)
  | (with_reducible refine st_fld ?_)
  | (with_reducible refine st_nx ?_)
  | (with_reducible refine st_rI0 ?_)
  | (with_reducible refine st_callB ?_)
  | (with_reducible refine st_gnil ?_)
  | (with_reducible refine st_tup ?_)
  | wtm_at "lwst2")

/-- a deed's promise, where its list is none of the places that may be written -/
def DeedR (K : PySem.W.Frag) (C : Addr) (n : Nat) : Sp := fun vs H Q _ => ∃ (L : Lay) (m : M) (nv : V) (rp : Addr) (xs row : List Nat), vs = [.ref L.a, nv, .ref rp] ∧ St K C H L m ∧ Wf m ∧ Ns K H nv xs ∧ SqL K H rp ((nz row).map V.int) ∧ rp ∉ L.F ∧ Okc n xs row ∧
  ∀ p H' L', Keep L H L' H' → St K C H' L' (onM m n xs row).1 → Wf (onM m n xs row).1 → H p = none → H' p = some (.lst ((onM m n xs row).2.map V.int)) → Q (.ref p) H'
theorem DeedR.deed {K : PySem.W.Frag} {C : Addr} {n : Nat} {vs : List V} {H : Hp} {Q : VK} {E : XK} (h : DeedR K C n vs H Q E) : Deed K C n vs H Q E :=
  let ⟨L, m, nv, rp, xs, row, a, b, c, d, e, _, f, k⟩ := h
  ⟨L, m, nv, _, xs, row, a, b, c, d, ⟨rp, rfl, e⟩, f, k⟩
theorem sqL_keep {K : PySem.W.Frag} {L L' : Lay} {H H' : Hp} {p : Addr} {xs : List V} (kp : Keep L H L' H') (hF : p ∉ L.F) (h : SqL K H p xs) : SqL K H' p xs := by
  rcases h with (h | ⟨ob, h⟩) | h
  · exact .inl (.inl (kp.old _ _ h hF))
  · exact .inl (.inr ⟨ob, kp.old _ _ h hF⟩)
  · exact .inr h
section
variable {P : Program} {w : World} {K : PySem.W.Frag} {mg : Str → Option Value} {base : Heap} {az an aw d1 d2 d3 C : Addr}

def sp_set_policy (K : PySem.W.Frag) (C : Addr) : Sp := DeedR K C 4
abbrev s_set_policy : Stmt := top 85
theorem sc_set_policy : FnScope ["study", "numbers", "row", "policy", "context"] ["study", "numbers", "row"] (defScope s_set_policy) := ⟨rfl, rfl, rfl, by decide +kernel, rfl, by decide +kernel, by decide +kernel⟩
theorem ok_set_policy (T : Tx K mg az an aw d1 d2 d3 C) (h : Has K mg "set_policy" s_set_policy ["study", "numbers", "row"]) (O_are_weights : Ok P w K mg base "are_weights" 3 ["weights", "actions"] (sp_are_weights K C)) (O_is_policy : Ok P w K mg base "is_policy" 2 ["policy"] (sp_is_policy K C)) (O_put_weights : OkM P w K mg base C "put_weights" 1 ["self", "policy", "context", "weights"] (sp_put_weights K C)) (O_has_context : OkM P w K mg base C "has_context" 1 ["self", "context"] (sp_has_context K C)) :
    Ok P w K mg base "set_policy" 4 ["study", "numbers", "row"] (sp_set_policy K C) := by
  refine ok_of h sc_set_policy (fun vs H Q E h => ?_) (fun f cdv A outer s H vs Q E hr h => ⟨_, (pss_cons (ps_asg (pv 1) (pg_unlK (K := K) (n := 2) rfl rfl (pgs_cons (pg_name (i := 3) sc_set_policy.nd rfl (Or.inl rfl)) (pgs_cons (pg_name (i := 4) sc_set_policy.nd rfl (Or.inl rfl)) pgs_nil))))
      (pss_cons (ps_if (PW.pt (pw_or (pt_not (pt_val (pe_go O_is_policy (hr.mono (by decide)) (by rfl) (pa_cons (pv 3) pa_nil)))) (pw_or1 (pt_not (pt_val (pe_goM (pv 0) T.cl O_has_context (hr.mono (by decide)) (pa_cons (pv 4) pa_nil))))))) (pss_one (ps_ret (pe_lst (pa_cons (pe_globI (by rfl) T.m_NOT_THERE) pa_nil)))) pss_nil)
      (pss_cons (ps_if (pt_not (pt_val (pe_go O_are_weights (hr.mono (by decide)) (by rfl) (pa_cons (pv 2) (pa_cons (pe_fldK (K := K) rfl (pv 0) rfl) pa_nil))))) (pss_one (ps_ret (pe_lst (pa_cons (pe_globI (by rfl) T.m_OUTSIDE) pa_nil)))) pss_nil)
      (pss_cons (ps_expr (pe_goM (pv 0) T.cl O_put_weights (hr.mono (by decide)) (pa_cons (pv 3) (pa_cons (pv 4) (pa_cons (pv 2) pa_nil)))))
      (pss_one (ps_ret (pe_lst (pa_cons (pe_callB (cr_sumK (K := K) rfl rfl) (by rfl) T.b_sum (by decide +kernel) (pa_cons (pv 2) pa_nil)) pa_nil)))))))), ?_⟩)
  · first | (obtain ⟨_, rfl, _⟩ := h; rfl) | (obtain ⟨_, _, rfl, _⟩ := h; rfl) | (obtain ⟨_, _, _, rfl, _⟩ := h; rfl) | (obtain ⟨_, _, _, _, rfl, _⟩ := h; rfl) | (obtain ⟨_, _, _, _, _, rfl, _⟩ := h; rfl) | (obtain ⟨_, _, _, _, _, _, rfl, _⟩ := h; rfl) | (obtain ⟨_, _, _, _, _, _, _, rfl, _⟩ := h; rfl) | (obtain ⟨_, _, _, _, _, _, _, _, rfl, _⟩ := h; rfl) | (obtain ⟨_, _, _, _, _, _, _, _, _, rfl, _⟩ := h; rfl) | (obtain ⟨_, _, _, _, _, _, _, _, _, _, rfl, _⟩ := h; rfl) | (obtain ⟨_, _, _, _, _, _, _, _, _, _, _, rfl, _⟩ := h; rfl) | (obtain ⟨_, _, _, _, _, _, _, _, _, _, _, _, rfl, _⟩ := h; rfl) | (obtain ⟨_, _, _, _, _, _, _, _, _, _, _, _, _, rfl, _⟩ := h; rfl)

  · obtain ⟨L, m, nv, rp, xs, row, rfl, S, W, ⟨p, rfl, hp⟩, hrow, hF, ok, k⟩ := h
    obtain ⟨g, c, rfl⟩ := len2 ok.len
    have hp' : SqL K H p [.int (g : Int), .int (c : Int)] := hp
    repeat wtm_at "lwst"
    refine st_gunl hp' rfl ?_
    repeat wtm_at "lwst"
    refine ⟨g, rfl, ?_⟩
    repeat wtm_at "lwst"
    refine cond_2 (fun c0 => ?_) (fun c0 => ?_)
    · rw [Bool.not_eq_true'] at c0
      repeat wtm_at "lwst"
      exact ret_one (deed_read S W k (by show oPolicy m g c row = _; unfold oPolicy; rw [c0, if_neg (by simp)]))
    rw [Bool.not_eq_false'] at c0
    repeat wtm_at "lwst"
    refine meth_go S (by decide +kernel) ?_
    repeat wtm_at "lwst"
    refine ⟨L, m, c, rfl, S, ?_⟩
    repeat wtm_at "lwst"
    refine cond_2 (fun c1 => ?_) (fun c1 => ?_)
    · rw [Bool.not_eq_true'] at c1
      repeat wtm_at "lwst"
      exact ret_one (deed_read S W k (by show oPolicy m g c row = _; unfold oPolicy; rw [c0, c1, if_neg (by simp)]))
    rw [Bool.not_eq_false'] at c1
    have c01 : (isPol g && isCtx m c) = true := by rw [c0, c1]; rfl
    repeat wtm_at "lwst"
    refine fl_actions T S ?_
    repeat wtm_at "lwst"
    refine ⟨_, row, m.na, rfl, ⟨rp, rfl, hrow⟩, ?_⟩
    repeat wtm_at "lwst"
    refine cond_2 (fun c2 => ?_) (fun c2 => ?_)
    · rw [Bool.not_eq_true'] at c2
      repeat wtm_at "lwst"
      refine ret_one (deed_read S W k (by show oPolicy m g c row = _; unfold oPolicy; rw [if_pos c01, c2, if_neg (by simp)]))
    rw [Bool.not_eq_false'] at c2
    repeat wtm_at "lwst"
    refine meth_go S (by decide +kernel) ?_
    repeat wtm_at "lwst"
    refine ⟨L, m, g, c, _, row, rfl, S, W, pol_lt c0, of_decide_eq_true c1, ⟨rp, rfl, hrow⟩, fun H4 kp S4 => ?_⟩
    repeat wtm_at "lwst"
    refine st_sum (ns := nz row) (sqL_keep kp hF hrow) ?_
    repeat wtm_at "lwst"
    rw [nz_sum]
    exact ret_one (deed_go (L1 := L) k (by show oPolicy m g c row = _; unfold oPolicy; rw [if_pos c01, if_pos c2]) kp S4 (wf_policy W (pol_lt c0) (of_decide_eq_true c1) c2))
def sp_set_copy (K : PySem.W.Frag) (C : Addr) : Sp := Deed K C 5
abbrev s_set_copy : Stmt := top 86
theorem sc_set_copy : FnScope ["study", "numbers", "row", "source", "target"] ["study", "numbers", "row"] (defScope s_set_copy) := ⟨rfl, rfl, rfl, by decide +kernel, rfl, by decide +kernel, by decide +kernel⟩
theorem ok_set_copy (T : Tx K mg az an aw d1 d2 d3 C) (h : Has K mg "set_copy" s_set_copy ["study", "numbers", "row"]) (O_is_policy : Ok P w K mg base "is_policy" 2 ["policy"] (sp_is_policy K C)) (O_copy_policy : OkM P w K mg base C "copy_policy" 1 ["self", "source", "target"] (sp_copy_policy K C)) :
    Ok P w K mg base "set_copy" 3 ["study", "numbers", "row"] (sp_set_copy K C) := by
  refine ok_of h sc_set_copy (fun vs H Q E h => ?_) (fun f cdv A outer s H vs Q E hr h => ⟨_, (pss_cons (ps_asg (pv 1) (pg_unlK (K := K) (n := 2) rfl rfl (pgs_cons (pg_name (i := 3) sc_set_copy.nd rfl (Or.inl rfl)) (pgs_cons (pg_name (i := 4) sc_set_copy.nd rfl (Or.inl rfl)) pgs_nil))))
      (pss_cons (ps_if (PW.pt (pw_or (pt_not (pt_val (pe_go O_is_policy (hr.mono (by decide)) (by rfl) (pa_cons (pv 3) pa_nil)))) (pw_or1 (pt_not (pt_val (pe_go O_is_policy (hr.mono (by decide)) (by rfl) (pa_cons (pv 4) pa_nil))))))) (pss_one (ps_ret (pe_lst (pa_cons (pe_globI (by rfl) T.m_NOT_THERE) pa_nil)))) pss_nil)
      (pss_cons (ps_expr (pe_goM (pv 0) T.cl O_copy_policy (hr.mono (by decide)) (pa_cons (pv 3) (pa_cons (pv 4) pa_nil))))
      (pss_one (ps_ret (pe_lst (pa_cons pe_int pa_nil))))))), ?_⟩)
  · first | (obtain ⟨_, rfl, _⟩ := h; rfl) | (obtain ⟨_, _, rfl, _⟩ := h; rfl) | (obtain ⟨_, _, _, rfl, _⟩ := h; rfl) | (obtain ⟨_, _, _, _, rfl, _⟩ := h; rfl) | (obtain ⟨_, _, _, _, _, rfl, _⟩ := h; rfl) | (obtain ⟨_, _, _, _, _, _, rfl, _⟩ := h; rfl) | (obtain ⟨_, _, _, _, _, _, _, rfl, _⟩ := h; rfl) | (obtain ⟨_, _, _, _, _, _, _, _, rfl, _⟩ := h; rfl) | (obtain ⟨_, _, _, _, _, _, _, _, _, rfl, _⟩ := h; rfl) | (obtain ⟨_, _, _, _, _, _, _, _, _, _, rfl, _⟩ := h; rfl) | (obtain ⟨_, _, _, _, _, _, _, _, _, _, _, rfl, _⟩ := h; rfl) | (obtain ⟨_, _, _, _, _, _, _, _, _, _, _, _, rfl, _⟩ := h; rfl) | (obtain ⟨_, _, _, _, _, _, _, _, _, _, _, _, _, rfl, _⟩ := h; rfl)

  · obtain ⟨L, m, nv, rv, xs, row, rfl, S, W, ⟨p, rfl, hp⟩, hrow, ok, k⟩ := h
    obtain ⟨a, b, rfl⟩ := len2 ok.len
    have hp' : SqL K H p [.int (a : Int), .int (b : Int)] := hp
    repeat wtm_at "lwst"
    refine st_gunl hp' rfl ?_
    repeat wtm_at "lwst"
    refine ⟨a, rfl, ?_⟩
    repeat wtm_at "lwst"
    refine cond_2 (fun c0 => ?_) (fun c0 => ?_)
    · rw [Bool.not_eq_true'] at c0
      repeat wtm_at "lwst"
      exact ret_one (deed_read S W k (by show oCopy m a b = _; unfold oCopy; rw [c0, if_neg (by simp)]))
    rw [Bool.not_eq_false'] at c0
    repeat wtm_at "lwst"
    refine ⟨b, rfl, ?_⟩
    repeat wtm_at "lwst"
    refine cond_2 (fun c1 => ?_) (fun c1 => ?_)
    · rw [Bool.not_eq_true'] at c1
      repeat wtm_at "lwst"
      exact ret_one (deed_read S W k (by show oCopy m a b = _; unfold oCopy; rw [c0, c1, if_neg (by simp)]))
    rw [Bool.not_eq_false'] at c1
    repeat wtm_at "lwst"
    refine meth_go S (by decide +kernel) ?_
    repeat wtm_at "lwst"
    refine ⟨L, m, a, b, rfl, S, W, pol_lt c0, pol_lt c1, fun H4 L4 kp S4 => ?_⟩
    repeat wtm_at "lwst"
    exact ret_one (deed_go (L1 := L4) k (by show oCopy m a b = _; unfold oCopy; rw [c0, c1, if_pos (by rfl)]) kp S4 (wf_copy W (pol_lt c0) (pol_lt c1)))
def sp_set_model (K : PySem.W.Frag) (C : Addr) : Sp := Deed K C 6
abbrev s_set_model : Stmt := top 87
theorem sc_set_model : FnScope ["study", "numbers", "row", "context", "each"] ["study", "numbers", "row"] (defScope s_set_model) := ⟨rfl, rfl, rfl, by decide +kernel, rfl, by decide +kernel, by decide +kernel⟩
theorem ok_set_model (T : Tx K mg az an aw d1 d2 d3 C) (h : Has K mg "set_model" s_set_model ["study", "numbers", "row"]) (O_are_rewards : Ok P w K mg base "are_rewards" 3 ["rewards", "actions"] (sp_are_rewards K C)) (O_whole : Ok P w K mg base "whole" 1 ["number"] (sp_whole K C)) (O_put_model : OkM P w K mg base C "put_model" 1 ["self", "context", "estimates"] (sp_put_model K C)) (O_has_context : OkM P w K mg base C "has_context" 1 ["self", "context"] (sp_has_context K C)) :
    Ok P w K mg base "set_model" 4 ["study", "numbers", "row"] (sp_set_model K C) := by
  refine ok_of h sc_set_model (fun vs H Q E h => ?_) (fun f cdv A outer s H vs Q E hr h => ⟨_, (pss_cons (ps_set (i := 3) sc_set_model.nd rfl (Or.inl rfl) (pe_ix (ix_listK (K := K) rfl) (pv 1) pe_int (fun _ _ => rfl)))
      (pss_cons (ps_if (pt_not (pt_val (pe_goM (pv 0) T.cl O_has_context (hr.mono (by decide)) (pa_cons (pv 3) pa_nil)))) (pss_one (ps_ret (pe_lst (pa_cons (pe_globI (by rfl) T.m_NOT_THERE) pa_nil)))) pss_nil)
      (pss_cons (ps_if (pt_not (pt_val (pe_go O_are_rewards (hr.mono (by decide)) (by rfl) (pa_cons (pv 2) (pa_cons (pe_fldK (K := K) rfl (pv 0) rfl) pa_nil))))) (pss_one (ps_ret (pe_lst (pa_cons (pe_globI (by rfl) T.m_OUTSIDE) pa_nil)))) pss_nil)
      (pss_cons (ps_expr (pe_goM (pv 0) T.cl O_put_model (hr.mono (by decide)) (pa_cons (pv 3) (pa_cons (pe_lc (own := [("each", 4)]) (by rfl) sc_set_model.nd (pi_list (pv 2)) (blkOk_by (own := [("each", 4)]) (N := ["study", "numbers", "row", "context", "each"]) (sc := defScope s_set_model) (by decide +kernel)) (fun _ _ _ _ _ => (pg_name (i := 4) sc_set_model.nd rfl (Or.inl rfl))) (fun _ _ _ _ _ => pts_nil) (fun _ _ _ _ _ => (pe_go O_whole (hr.mono (by decide)) (by rfl) (pa_cons (pv 4) pa_nil)))) pa_nil))))
      (pss_one (ps_ret (pe_lst (pa_cons pe_int pa_nil)))))))), ?_⟩)
  · first | (obtain ⟨_, rfl, _⟩ := h; rfl) | (obtain ⟨_, _, rfl, _⟩ := h; rfl) | (obtain ⟨_, _, _, rfl, _⟩ := h; rfl) | (obtain ⟨_, _, _, _, rfl, _⟩ := h; rfl) | (obtain ⟨_, _, _, _, _, rfl, _⟩ := h; rfl) | (obtain ⟨_, _, _, _, _, _, rfl, _⟩ := h; rfl) | (obtain ⟨_, _, _, _, _, _, _, rfl, _⟩ := h; rfl) | (obtain ⟨_, _, _, _, _, _, _, _, rfl, _⟩ := h; rfl) | (obtain ⟨_, _, _, _, _, _, _, _, _, rfl, _⟩ := h; rfl) | (obtain ⟨_, _, _, _, _, _, _, _, _, _, rfl, _⟩ := h; rfl) | (obtain ⟨_, _, _, _, _, _, _, _, _, _, _, rfl, _⟩ := h; rfl) | (obtain ⟨_, _, _, _, _, _, _, _, _, _, _, _, rfl, _⟩ := h; rfl) | (obtain ⟨_, _, _, _, _, _, _, _, _, _, _, _, _, rfl, _⟩ := h; rfl)

  · obtain ⟨L, m, nv, rv, xs, row, rfl, S, W, ⟨p, rfl, hp⟩, hrow, ok, k⟩ := h
    obtain ⟨c, rfl⟩ := len1 ok.len
    have hp' : SqL K H p [.int (c : Int)] := hp
    repeat wtm_at "lwst"
    refine st_ixL hp' (atI_nat (j := 0) rfl) ?_
    repeat wtm_at "lwst"
    refine meth_go S (by decide +kernel) ?_
    repeat wtm_at "lwst"
    refine ⟨L, m, c, rfl, S, ?_⟩
    repeat wtm_at "lwst"
    refine cond_2 (fun c1 => ?_) (fun c1 => ?_)
    · rw [Bool.not_eq_true'] at c1
      repeat wtm_at "lwst"
      exact ret_one (deed_read S W k (by show oModel m c row = _; unfold oModel; rw [c1, if_neg (by simp)]))
    rw [Bool.not_eq_false'] at c1
    repeat wtm_at "lwst"
    refine fl_actions T S ?_
    repeat wtm_at "lwst"
    refine ⟨rv, row, m.na, rfl, hrow, ?_⟩
    repeat wtm_at "lwst"
    refine cond_2 (fun c2 => ?_) (fun c2 => ?_)
    · rw [Bool.not_eq_true'] at c2
      repeat wtm_at "lwst"
      refine ret_one (deed_read S W k (by show oModel m c row = _; unfold oModel; rw [if_pos c1, c2, if_neg (by simp)]))
    rw [Bool.not_eq_false'] at c2
    repeat wtm_at "lwst"
    refine meth_go S (by decide +kernel) ?_
    repeat wtm_at "lwst"
    have rlen : row.length ≤ 12 := ok.len12
    obtain ⟨rp, rfl, hrp⟩ := id hrow
    refine go_lcL (R := RF K) (zs := row.map fun (x : Nat) => (x : Rw)) (by rw [nzV_len, List.length_map]) (by rw [nzV_len]; omega) (Same.refl H) hrp RF.up RF.mu (fun D i x z H1 hi hz hD e hacc Q' kq => ?_) (fun np H1 ws hnn e1 h1 a1 => ?_)
    · rw [List.getElem?_map] at hi hz
      obtain ⟨y, hy, rfl⟩ := Option.map_eq_some_iff.mp hi
      unfold nz at hy
      rw [List.getElem?_map] at hy
      obtain ⟨w, hw, rfl⟩ := Option.map_eq_some_iff.mp hy
      rw [hw] at hz
      cases hz
      repeat wtm_at "lwst"
      refine ⟨rfl, ?_⟩
      repeat wtm_at "lwst"
      exact ⟨_, rfl, fun v H2 e2 hv => kq v H2 e2 hv⟩
    · have S1 := S.up e1
      repeat wtm_at "lwst"
      refine ⟨L, m, c, _, row.map fun (x : Nat) => (x : Rw), rfl, S1, W.mo.1, of_decide_eq_true c1, ⟨np, ws, rfl, SqL.of h1, a1⟩, fun H4 kp S4 => ?_⟩
      repeat wtm_at "lwst"
      exact ret_one (deed_go (L1 := L) k (by show oModel m c row = _; unfold oModel; rw [if_pos c1, if_pos c2]) ((Keep.same e1).trans kp) S4 (wf_model W (of_decide_eq_true c1) c2))
theorem fit_same (m : M) (mo : List (List Rw)) (c : Nat) : fitRow { m with mo := mo } c = fitRow m c := rfl
theorem st_keepA {H : Hp} {L L' : Lay} {m : M} {x : V} (e : L'.a = L.a) : V.ref L.a = V.ref L'.a := by rw [e]
def sp_fit_model (K : PySem.W.Frag) (C : Addr) : Sp := Deed K C 7
abbrev s_fit_model : Stmt := top 88
theorem sc_fit_model : FnScope ["study", "numbers", "row", "context"] ["study", "numbers", "row"] (defScope s_fit_model) := ⟨rfl, rfl, rfl, by decide +kernel, rfl, by decide +kernel, by decide +kernel⟩
theorem ok_fit_model (T : Tx K mg az an aw d1 d2 d3 C) (h : Has K mg "fit_model" s_fit_model ["study", "numbers", "row"]) (O_fitted_row : Ok P w K mg base "fitted_row" 7 ["study", "context"] (sp_fitted_row K C)) (O_put_model : OkM P w K mg base C "put_model" 1 ["self", "context", "estimates"] (sp_put_model K C)) :
    Ok P w K mg base "fit_model" 8 ["study", "numbers", "row"] (sp_fit_model K C) := by
  refine ok_of h sc_fit_model (fun vs H Q E h => ?_) (fun f cdv A outer s H vs Q E hr h => ⟨_, (pss_cons (ps_for PassesOwn.never rfl (pi_range1 (by rfl) T.b_range (pa_cons (pe_fldK (K := K) rfl (pv 0) rfl) pa_nil)) (pg_name (i := 3) sc_fit_model.nd rfl (Or.inl rfl)) (pss_one (ps_expr (pe_goM (pv 0) T.cl O_put_model (hr.mono (by decide)) (pa_cons (pv 3) (pa_cons (pe_go O_fitted_row (hr.mono (by decide)) (by rfl) (pa_cons (pv 0) (pa_cons (pv 3) pa_nil))) pa_nil))))))
      (pss_one (ps_ret (pe_lst (pa_cons (pe_callB (cb_lenK (K := K) rfl) (by rfl) T.b_len PySem.boot_len (pa_cons (pe_fldK (K := K) rfl (pv 0) rfl) pa_nil)) pa_nil))))), ?_⟩)
  · first | (obtain ⟨_, rfl, _⟩ := h; rfl) | (obtain ⟨_, _, rfl, _⟩ := h; rfl) | (obtain ⟨_, _, _, rfl, _⟩ := h; rfl) | (obtain ⟨_, _, _, _, rfl, _⟩ := h; rfl) | (obtain ⟨_, _, _, _, _, rfl, _⟩ := h; rfl) | (obtain ⟨_, _, _, _, _, _, rfl, _⟩ := h; rfl) | (obtain ⟨_, _, _, _, _, _, _, rfl, _⟩ := h; rfl) | (obtain ⟨_, _, _, _, _, _, _, _, rfl, _⟩ := h; rfl) | (obtain ⟨_, _, _, _, _, _, _, _, _, rfl, _⟩ := h; rfl) | (obtain ⟨_, _, _, _, _, _, _, _, _, _, rfl, _⟩ := h; rfl) | (obtain ⟨_, _, _, _, _, _, _, _, _, _, _, rfl, _⟩ := h; rfl) | (obtain ⟨_, _, _, _, _, _, _, _, _, _, _, _, rfl, _⟩ := h; rfl) | (obtain ⟨_, _, _, _, _, _, _, _, _, _, _, _, _, rfl, _⟩ := h; rfl)

  · obtain ⟨L, m, nv, rv, xs, row, rfl, S, W, ⟨p, rfl, hp⟩, hrow, ok, k⟩ := h
    obtain rfl := len0 ok.len
    have nc6 := W.nc6
    repeat wtm_at "lwst"
    refine fl_contexts T S ?_
    repeat wtm_at "lwst"
    refine go_forR (H0 := fun _ => none) (n := m.nc) (by omega) (fun _ _ z => by cases z) (fun i σ H1 => Keep L H L H1 ∧ (∃ mo, (∀ j, j < i → mo[j]? = some (fitRow m j)) ∧ St K C H1 L { m with mo := mo } ∧ Wf { m with mo := mo }) ∧ ∃ o, σ = [some (.ref L.a), some (.ref p), some rv, o]) ⟨Keep.same (Same.refl H), ⟨m.mo, fun j hj => by omega, S, W⟩, none, rfl⟩ ?_ ?_
    · rintro i σ H1 hi _ ⟨kp, ⟨mo, hmo, S1, W1⟩, o, rfl⟩
      repeat wtm_at "lwst"
      refine meth_go S1 (by decide +kernel) ?_
      repeat wtm_at "lwst"
      refine ⟨L, { m with mo := mo }, i, rfl, S1, W1, fun v H2 e2 hv => ?_⟩
      repeat wtm_at "lwst"
      refine ⟨L, { m with mo := mo }, i, _, _, rfl, S1.up e2, W1.mo.1, hi, hv, fun H4 kp4 S4 => ?_⟩
      repeat wtm_at "lwst"
      refine ⟨(fun _ _ z => by cases z), (kp.trans (.same e2)).trans kp4, ⟨mo.set i (fitRow m i), fun j hj => ?_, S4, wf_fit1 W W1 hi⟩, _, rfl⟩
      have ml : mo.length = m.nc := W1.mo.1
      by_cases hj' : j = i
      · rw [hj', List.getElem?_set_self (by rw [ml]; exact hi)]
      · rw [List.getElem?_set_ne (Ne.symm hj')]
        exact hmo j (by omega)
    · rintro σ H1 _ ⟨kp, ⟨mo, hmo, S1, W1⟩, o, rfl⟩
      have ml : mo.length = m.nc := W1.mo.1
      have em : mo = (List.range m.nc).map (fitRow m) := by
        refine List.ext_getElem? fun j => ?_
        by_cases hj : j < m.nc
        · rw [hmo j hj, List.getElem?_map, List.getElem?_range hj]
          rfl
        · rw [List.getElem?_eq_none (by omega), List.getElem?_eq_none (by rw [List.length_map, List.length_range]; omega)]
      rw [em] at S1 W1
      obtain ⟨es4, hes4, hxs4⟩ := S1.ev
      repeat wtm_at "lwst"
      refine fl_events T S1 ?_
      repeat wtm_at "lwst"
      refine st_len (SqL.of hes4) ?_
      repeat wtm_at "lwst"
      rw [hxs4.len]
      exact ret_one (deed_go (L1 := L) k (by show oFit m = _; unfold oFit; rfl) kp S1 W1)
def sp_set_truth (K : PySem.W.Frag) (C : Addr) : Sp := DeedR K C 8
abbrev s_set_truth : Stmt := top 89
theorem sc_set_truth : FnScope ["study", "numbers", "row", "context", "weight"] ["study", "numbers", "row"] (defScope s_set_truth) := ⟨rfl, rfl, rfl, by decide +kernel, rfl, by decide +kernel, by decide +kernel⟩
theorem ok_set_truth (T : Tx K mg az an aw d1 d2 d3 C) (h : Has K mg "set_truth" s_set_truth ["study", "numbers", "row"]) (O_is_between : Ok P w K mg base "is_between" 1 ["number", "least", "most"] (sp_is_between K C)) (O_are_rewards : Ok P w K mg base "are_rewards" 3 ["rewards", "actions"] (sp_are_rewards K C)) (O_put_truth : OkM P w K mg base C "put_truth" 1 ["self", "context", "weight", "rewards"] (sp_put_truth K C)) (O_has_context : OkM P w K mg base C "has_context" 1 ["self", "context"] (sp_has_context K C)) :
    Ok P w K mg base "set_truth" 4 ["study", "numbers", "row"] (sp_set_truth K C) := by
  refine ok_of h sc_set_truth (fun vs H Q E h => ?_) (fun f cdv A outer s H vs Q E hr h => ⟨_, (pss_cons (ps_asg (pv 1) (pg_unlK (K := K) (n := 2) rfl rfl (pgs_cons (pg_name (i := 3) sc_set_truth.nd rfl (Or.inl rfl)) (pgs_cons (pg_name (i := 4) sc_set_truth.nd rfl (Or.inl rfl)) pgs_nil))))
      (pss_cons (ps_if (pt_not (pt_val (pe_goM (pv 0) T.cl O_has_context (hr.mono (by decide)) (pa_cons (pv 3) pa_nil)))) (pss_one (ps_ret (pe_lst (pa_cons (pe_globI (by rfl) T.m_NOT_THERE) pa_nil)))) pss_nil)
      (pss_cons (ps_if (PW.pt (pw_or (pt_not (pt_val (pe_go O_is_between (hr.mono (by decide)) (by rfl) (pa_cons (pv 4) (pa_cons pe_int (pa_cons (pe_globI (by rfl) T.m_MOST_WEIGHT) pa_nil)))))) (pw_or1 (pt_not (pt_val (pe_go O_are_rewards (hr.mono (by decide)) (by rfl) (pa_cons (pv 2) (pa_cons (pe_fldK (K := K) rfl (pv 0) rfl) pa_nil)))))))) (pss_one (ps_ret (pe_lst (pa_cons (pe_globI (by rfl) T.m_OUTSIDE) pa_nil)))) pss_nil)
      (pss_cons (ps_expr (pe_goM (pv 0) T.cl O_put_truth (hr.mono (by decide)) (pa_cons (pv 3) (pa_cons (pv 4) (pa_cons (pv 2) pa_nil)))))
      (pss_one (ps_ret (pe_lst (pa_cons pe_int pa_nil)))))))), ?_⟩)
  · first | (obtain ⟨_, rfl, _⟩ := h; rfl) | (obtain ⟨_, _, rfl, _⟩ := h; rfl) | (obtain ⟨_, _, _, rfl, _⟩ := h; rfl) | (obtain ⟨_, _, _, _, rfl, _⟩ := h; rfl) | (obtain ⟨_, _, _, _, _, rfl, _⟩ := h; rfl) | (obtain ⟨_, _, _, _, _, _, rfl, _⟩ := h; rfl) | (obtain ⟨_, _, _, _, _, _, _, rfl, _⟩ := h; rfl) | (obtain ⟨_, _, _, _, _, _, _, _, rfl, _⟩ := h; rfl) | (obtain ⟨_, _, _, _, _, _, _, _, _, rfl, _⟩ := h; rfl) | (obtain ⟨_, _, _, _, _, _, _, _, _, _, rfl, _⟩ := h; rfl) | (obtain ⟨_, _, _, _, _, _, _, _, _, _, _, rfl, _⟩ := h; rfl) | (obtain ⟨_, _, _, _, _, _, _, _, _, _, _, _, rfl, _⟩ := h; rfl) | (obtain ⟨_, _, _, _, _, _, _, _, _, _, _, _, _, rfl, _⟩ := h; rfl)

  · obtain ⟨L, m, nv, rp, xs, row, rfl, S, W, ⟨p, rfl, hp⟩, hrow, hF, ok, k⟩ := h
    obtain ⟨c, x, rfl⟩ := len2 ok.len
    have hp' : SqL K H p [.int (c : Int), .int (x : Int)] := hp
    repeat wtm_at "lwst"
    refine st_gunl hp' rfl ?_
    repeat wtm_at "lwst"
    refine meth_go S (by decide +kernel) ?_
    repeat wtm_at "lwst"
    refine ⟨L, m, c, rfl, S, ?_⟩
    repeat wtm_at "lwst"
    refine cond_2 (fun c1 => ?_) (fun c1 => ?_)
    · rw [Bool.not_eq_true'] at c1
      repeat wtm_at "lwst"
      exact ret_one (deed_read S W k (by show oTruth m c x row = _; unfold oTruth; rw [c1, if_neg (by simp)]))
    rw [Bool.not_eq_false'] at c1
    repeat wtm_at "lwst"
    refine ⟨_, _, _, rfl, ?_⟩
    repeat wtm_at "lwst"
    have eb : (decide ((1 : Int) ≤ (x : Int)) && decide ((x : Int) ≤ 1000)) = (decide (1 ≤ x) && decide (x ≤ 1000)) := by
      rw [show decide ((1 : Int) ≤ (x : Int)) = decide (1 ≤ x) from decide_eq_decide.mpr (by omega), show decide ((x : Int) ≤ 1000) = decide (x ≤ 1000) from decide_eq_decide.mpr (by omega)]
    rw [eb]
    refine cond_2 (fun c2 => ?_) (fun c2 => ?_)
    · rw [Bool.not_eq_true'] at c2
      repeat wtm_at "lwst"
      refine ret_one (deed_read S W k (by show oTruth m c x row = _; unfold oTruth; rw [if_pos c1, c2, if_neg (by simp)]))
    rw [Bool.not_eq_false'] at c2
    repeat wtm_at "lwst"
    refine fl_actions T S ?_
    repeat wtm_at "lwst"
    refine ⟨_, row, m.na, rfl, ⟨rp, rfl, hrow⟩, ?_⟩
    repeat wtm_at "lwst"
    refine cond_2 (fun c3 => ?_) (fun c3 => ?_)
    · rw [Bool.not_eq_true'] at c3
      repeat wtm_at "lwst"
      refine ret_one (deed_read S W k (by show oTruth m c x row = _; unfold oTruth; rw [if_pos c1, c2, c3, if_neg (by simp)]))
    rw [Bool.not_eq_false'] at c3
    have c2' := c2
    rw [Bool.and_eq_true] at c2'
    repeat wtm_at "lwst"
    refine meth_go S (by decide +kernel) ?_
    repeat wtm_at "lwst"
    refine ⟨L, m, c, x, _, row, rfl, S, W, of_decide_eq_true c1, ⟨rp, rfl, hrow⟩, (fun q e => by cases e; exact hF), fun H4 kp S4 => ?_⟩
    repeat wtm_at "lwst"
    exact ret_one (deed_go (L1 := L) k (by show oTruth m c x row = _; unfold oTruth; rw [if_pos c1, c2, c3, if_pos (by rfl)]) kp S4 (wf_truth W (of_decide_eq_true c1) (of_decide_eq_true c2'.1) (of_decide_eq_true c2'.2) c3))
end
end Lw

namespace Lw
open PySem PySem.Spec PyProof.Rows L2
local macro_rules | `(tactic| wtm_at "lwsame") => `(tactic| first
  | assumption | exact Same.refl _ | (refine Same.trans (by assumption) ?_; wtm_at "lwsame"))
local macro_rules | `(tactic| wtm_at "lwup") => `(tactic| first
  | assumption
  | ((with_reducible show SqT _ _ _ _); first | (refine sqT_up ?_ (by assumption); wtm_at "lwsame") | (refine KT.sq ?_ _; assumption) | (refine SqT.of ?_; wtm_at "lwup"))
  | ((with_reducible show SqL _ _ _ _); first | (refine sqL_up ?_ (by assumption); wtm_at "lwsame") | (refine SqL.of ?_; wtm_at "lwup"))
  | ((with_reducible show _ = some _); refine (show Same _ _ by wtm_at "lwsame") _ _ (by assumption))
  | ((with_reducible show Fq _ _ _ _); refine Fq.up ?_ (by assumption); wtm_at "lwsame")
  | ((with_reducible show Fs _ _ _ _); refine Fs.up ?_ (by assumption); wtm_at "lwsame")
  | ((with_reducible show Is _ _ _ _); refine Is.up ?_ (by assumption); wtm_at "lwsame")
  | ((with_reducible show Ns _ _ _ _); refine Ns.up ?_ (by assumption); wtm_at "lwsame")
  | ((with_reducible show Eq4 _ _ _ _); refine Eq4.up ?_ (by assumption); wtm_at "lwsame")
  | ((with_reducible show Evs _ _ _ _); refine Evs.up ?_ (by assumption); wtm_at "lwsame"))
local macro_rules | `(tactic| wtm_at "lwst2") => `(tactic| first
  | (with_reducible refine st_drop ?_)
  | (with_reducible refine st_par ?_)
  | (with_reducible refine st_par2 ?_)
  | (with_reducible refine st_un ?_)
  | (with_reducible refine st_rU ?_)
  | (with_reducible refine st_B ?_)
  | (with_reducible refine st_not ?_)
  | (with_reducible refine st_and ?_)
  | (with_reducible refine st_or ?_)
  | (with_reducible refine st_andV ?_)
  | (with_reducible refine st_orV ?_)
  | (with_reducible refine st_isB2 ?_)
  | (with_reducible refine st_ifE ?_)
  | (with_reducible refine st_yes ?_)
  | (with_reducible refine st_forL ?_)
  | (with_reducible refine st_forR ?_)
  | (with_reducible refine st_lcL ?_)
  | (with_reducible refine st_lcR ?_)
  | (with_reducible refine st_lcZ ?_)
  | (with_reducible refine st_bm ?_)
  | (with_reducible refine st_sfld ?_)
  | (with_reducible refine st_gsub ?_)
  | (with_reducible refine st_meth ?_)
  | (with_reducible refine st_sl ?_)
  | (with_reducible refine st_nopart ?_)
  | (with_reducible refine st_part ?_)
  | (with_reducible refine st_isI ?_)
  | (with_reducible refine st_rev ?_)
  | (with_reducible refine st_ckw ?_)
  | (with_reducible refine st_abs ?_)
  | ((with_reducible refine st_eq ?hh ?_); (case hh => exact rfl))
  | ((with_reducible refine st_ne ?hh ?_); (case hh => exact rfl))
  | ((with_reducible refine st_ixT (v := ?vv) (xs := ?xx) ?hh ?hi ?_); (case hh => wtm_at "lwup"); (case hi => exact rfl))
  | ((with_reducible refine st_gtup (xs := ?xx) ?hh ?hi ?_); (case hh => wtm_at "lwup"); (case hi => exact rfl)))
local macro_rules | `(tactic| wtm_at "lwst") => `(tactic| first
  | (with_reducible refine st_cons ?_)
  | ((with_reducible refine st_var (v := ?vv) ?hh ?_); (case hh => exact rfl))
  | (with_reducible refine st_nil ?_)
  | (with_reducible refine st_call ?_)
  | (with_reducible refine st_gname ?_)
  | (with_reducible refine st_c ?_)
  | (with_reducible refine st_seq ?_)
  | (with_reducible refine st_op ?_)
  | (with_reducible refine st_ret ?_)
  | (with_reducible refine st_lst ?_)
  | (with_reducible refine st_gcons ?_)
  | (with_reducible refine st_asg ?_)
  | (with_reducible refine st_isB ?_)
  | (with_reducible refine st_ifS ?_)
  | (with_reducible refine st_nx0 ?_)
  | (with_reducible refine st_test ?_)
  | (with_reducible refine st_fld ?_)
  | (with_reducible refine st_nx ?_)
  | (with_reducible refine st_rI0 ?_)
  | (with_reducible refine st_callB ?_)
  | (with_reducible refine st_gnil ?_)
  | (with_reducible refine st_tup ?_)
  | wtm_at "lwst2")

/-! ## The tables of operations -/
def entOf (ents : List (Int × Addr)) (i : Int) : Option Addr := (ents.find? fun p => p.1 == i).map (·.2)
/-- a written dict from ints to defs -/
structure KD (K : PySem.W.Frag) (d : Addr) (ents : List (Int × Addr)) : Prop where
  ex : ∃ (es : List DictEntry) (n : Nat), K.lookup d = some ⟨.type "dict", none, .dict es.toArray n, #[]⟩ ∧ All2 (fun (e : DictEntry) (p : Int × Addr) => (∃ t, e.key = .int p.1 t) ∧ e.hash = PySem.hashInt p.1 ∧ e.val = .ref p.2) es ents
  low : (d == sysModules) = false
section
variable {X : Cx} {K : PySem.W.Frag} {d : Addr} {ents : List (Int × Addr)}
theorem kd_find : ∀ {es : List DictEntry} {ents : List (Int × Addr)}, All2 (fun (e : DictEntry) (p : Int × Addr) => (∃ t, e.key = .int p.1 t) ∧ e.hash = PySem.hashInt p.1 ∧ e.val = .ref p.2) es ents → ∀ i, findBy Value.isInt es.toArray i = (entOf ents i).map Value.ref := by
  intro es ents h i
  unfold findBy entOf
  rw [List.find?_toArray]
  induction h with
  | nil => rfl
  | @cons e p l m h t ih =>
    obtain ⟨⟨k, hk⟩, _, hv⟩ := h
    have ek : Value.isInt i e.key = (p.1 == i) := by rw [hk]; rfl
    rw [List.find?_cons, List.find?_cons, ek]
    cases (p.1 == i) with
    | true =>
      show some e.val = some (Value.ref p.2)
      rw [hv]
    | false => exact ih
theorem kd_map {w : World} {prog : Program} {h : Heap} (D : KD K d ents) (kin : K.In h) : h.MapOf (PySem.intKind prog w) d fun i => (entOf ents i).map Value.ref := by
  obtain ⟨⟨es, n, hl, a⟩, _⟩ := D
  refine ⟨_, es.toArray, n, kin _ _ hl, ⟨rfl, rfl, rfl⟩, rfl, fun e he => ?_, fun i => kd_find a i⟩
  obtain ⟨j, hj⟩ := List.getElem?_of_mem (List.mem_toArray.mp he)
  obtain ⟨p, _, ⟨t, hk⟩, hh, _⟩ := a.get hj
  refine ⟨p.1, ?_, hh⟩
  rw [hk]
  show Value.isInt p.1 (.int p.1 t) = true
  unfold Value.isInt
  simp
def rInD (d : Addr) (ents : List (Int × Addr)) : R2 := fun x y H Q => ∃ i : Int, x = .int i ∧ y = .ref d ∧ Q (.bl (entOf ents i).isSome) H
theorem isInt_self (i : Int) (t : Tok) (prog : Program) (w : World) : (PySem.intKind prog w).is i (.int i t) = true := by
  show Value.isInt i (.int i t) = true
  unfold Value.isInt
  simp
theorem op_inDeeds (D : KD X.K d ents) : OpR X (compareOp .In) (rInD d ents) := by
  intro pins s σ H x y v u Q I rx ry h
  obtain ⟨i, rfl, rfl, q⟩ := h
  obtain ⟨t, rfl⟩ := rx
  cases ry
  refine wpAny_in_of (isInt_self i t X.prog X.w) D.low (kd_map D I.kIn) ?_
  rw [Option.isSome_map]
  exact ⟨.bl (entOf ents i).isSome, H, I.tok _, rfl, q⟩
def rIxDe (d : Addr) (ents : List (Int × Addr)) : R2 := fun x y H Q => ∃ (i : Int) (f : Addr), x = .ref d ∧ y = .int i ∧ entOf ents i = some f ∧ Q (.ref f) H
theorem ix_deeds (D : KD X.K d ents) : IxR X (rIxDe d ents) := by
  intro value slice pins s σ H x y v u Q I rx ry h hs
  obtain ⟨i, f, rfl, rfl, e, q⟩ := h
  obtain rfl : v = Value.ref d := rx
  obtain ⟨t, rfl⟩ := ry
  have hm := kd_map (prog := X.prog) (w := X.w) D I.kIn
  exact tail_any hm.typeIs slot_dict_getitem.lookup (wpAny_getItem_of (isInt_self i t X.prog X.w) hm (by rw [e]; rfl) ⟨.ref f, H, I.tok _, rfl, q⟩) hs
end
def isN_is_change (n : Nat) : Bool := decide (1 ≤ n) && decide (n ≤ 8)
def isN_changed (n : Nat) : Bool := isN_is_change n
def isN_is_question (n : Nat) : Bool := (decide (9 ≤ n) && decide (n ≤ 19)) || (n == 23 || n == 28)
def isN_answered (n : Nat) : Bool := isN_is_question n
def isN_looked_at (n : Nat) : Bool := decide (20 ≤ n) && (decide (n ≤ 27) && !(n == 23))
def callA (S : Addr → Option Sp) (t : TA) (σ : L2.St) (H : Hp) (Q : VK) (x : Option (Option V)) : Prop := ∃ f sp, x = some (some (.ref f)) ∧ S f = some sp ∧ t σ H fun vs H1 => sp vs H1 Q (fun _ _ _ => False)
theorem st_callA {i : Nat} {S : Addr → Option Sp} {t : TA} {σ : L2.St} {H : Hp} {Q : VK} (q : callA S t σ H Q σ[i]?) : tCallA i S t σ H Q := q
section
variable {P : Program} {w : World} {K : PySem.W.Frag} {mg : Str → Option Value} {base : Heap} {az an aw d1 d2 d3 C : Addr}

def sp_is_change (K : PySem.W.Frag) (C : Addr) : Sp := fun vs H Q _ => ∃ n : Nat, vs = [.int (n : Int)] ∧ n ≤ 28 ∧ Q (.bl (isN_is_change n)) H
abbrev s_is_change : Stmt := top 91
theorem sc_is_change : FnScope ["number"] ["number"] (defScope s_is_change) := ⟨rfl, rfl, rfl, by decide +kernel, rfl, by decide +kernel, by decide +kernel⟩
theorem ok_is_change (T : Tx K mg az an aw d1 d2 d3 C) (h : Has K mg "is_change" s_is_change ["number"]) {ents : List (Int × Addr)} (D : KD K d1 ents) (hN : ∀ n : Nat, n ≤ 28 → (entOf ents n).isSome = isN_is_change n) :
    Ok P w K mg base "is_change" 1 ["number"] (sp_is_change K C) := by
  refine ok_of h sc_is_change (fun vs H Q E h => ?_) (fun f cdv A outer s H vs Q E hr h => ⟨_, (pss_one (ps_ret (pe_cmpR (op_inDeeds D) (pv 0) (pe_globR (by rfl) T.m_DEEDS_changes) rfl))), ?_⟩)
  · first | (obtain ⟨_, rfl, _⟩ := h; rfl) | (obtain ⟨_, _, rfl, _⟩ := h; rfl) | (obtain ⟨_, _, _, rfl, _⟩ := h; rfl) | (obtain ⟨_, _, _, _, rfl, _⟩ := h; rfl) | (obtain ⟨_, _, _, _, _, rfl, _⟩ := h; rfl) | (obtain ⟨_, _, _, _, _, _, rfl, _⟩ := h; rfl) | (obtain ⟨_, _, _, _, _, _, _, rfl, _⟩ := h; rfl) | (obtain ⟨_, _, _, _, _, _, _, _, rfl, _⟩ := h; rfl) | (obtain ⟨_, _, _, _, _, _, _, _, _, rfl, _⟩ := h; rfl) | (obtain ⟨_, _, _, _, _, _, _, _, _, _, rfl, _⟩ := h; rfl) | (obtain ⟨_, _, _, _, _, _, _, _, _, _, _, rfl, _⟩ := h; rfl) | (obtain ⟨_, _, _, _, _, _, _, _, _, _, _, _, rfl, _⟩ := h; rfl) | (obtain ⟨_, _, _, _, _, _, _, _, _, _, _, _, _, rfl, _⟩ := h; rfl)

  · obtain ⟨n, rfl, hn, q⟩ := h
    repeat wtm_at "lwst"
    refine ⟨(n : Int), rfl, rfl, ?_⟩
    rw [hN n hn]
    exact q
def sp_is_question (K : PySem.W.Frag) (C : Addr) : Sp := fun vs H Q _ => ∃ n : Nat, vs = [.int (n : Int)] ∧ n ≤ 28 ∧ Q (.bl (isN_is_question n)) H
abbrev s_is_question : Stmt := top 129
theorem sc_is_question : FnScope ["number"] ["number"] (defScope s_is_question) := ⟨rfl, rfl, rfl, by decide +kernel, rfl, by decide +kernel, by decide +kernel⟩
theorem ok_is_question (T : Tx K mg az an aw d1 d2 d3 C) (h : Has K mg "is_question" s_is_question ["number"]) {ents : List (Int × Addr)} (D : KD K d2 ents) (hN : ∀ n : Nat, n ≤ 28 → (entOf ents n).isSome = isN_is_question n) :
    Ok P w K mg base "is_question" 1 ["number"] (sp_is_question K C) := by
  refine ok_of h sc_is_question (fun vs H Q E h => ?_) (fun f cdv A outer s H vs Q E hr h => ⟨_, (pss_one (ps_ret (pe_cmpR (op_inDeeds D) (pv 0) (pe_globR (by rfl) T.m_DEEDS_questions) rfl))), ?_⟩)
  · first | (obtain ⟨_, rfl, _⟩ := h; rfl) | (obtain ⟨_, _, rfl, _⟩ := h; rfl) | (obtain ⟨_, _, _, rfl, _⟩ := h; rfl) | (obtain ⟨_, _, _, _, rfl, _⟩ := h; rfl) | (obtain ⟨_, _, _, _, _, rfl, _⟩ := h; rfl) | (obtain ⟨_, _, _, _, _, _, rfl, _⟩ := h; rfl) | (obtain ⟨_, _, _, _, _, _, _, rfl, _⟩ := h; rfl) | (obtain ⟨_, _, _, _, _, _, _, _, rfl, _⟩ := h; rfl) | (obtain ⟨_, _, _, _, _, _, _, _, _, rfl, _⟩ := h; rfl) | (obtain ⟨_, _, _, _, _, _, _, _, _, _, rfl, _⟩ := h; rfl) | (obtain ⟨_, _, _, _, _, _, _, _, _, _, _, rfl, _⟩ := h; rfl) | (obtain ⟨_, _, _, _, _, _, _, _, _, _, _, _, rfl, _⟩ := h; rfl) | (obtain ⟨_, _, _, _, _, _, _, _, _, _, _, _, _, rfl, _⟩ := h; rfl)

  · obtain ⟨n, rfl, hn, q⟩ := h
    repeat wtm_at "lwst"
    refine ⟨(n : Int), rfl, rfl, ?_⟩
    rw [hN n hn]
    exact q
def Disp (K : PySem.W.Frag) (C : Addr) (is : Nat → Bool) : Sp := fun vs H Q E => ∃ (n : Nat) (a b c : V), vs = [.int (n : Int), a, b, c] ∧ is n = true ∧ DeedR K C n [a, b, c] H Q E
def sp_changed (K : PySem.W.Frag) (C : Addr) : Sp := Disp K C isN_changed
abbrev s_changed : Stmt := top 92
theorem sc_changed : FnScope ["number", "study", "numbers", "row", "deed"] ["number", "study", "numbers", "row"] (defScope s_changed) := ⟨rfl, rfl, rfl, by decide +kernel, rfl, by decide +kernel, by decide +kernel⟩
theorem ok_changed (T : Tx K mg az an aw d1 d2 d3 C) (h : Has K mg "changed" s_changed ["number", "study", "numbers", "row"]) {ents : List (Int × Addr)} (D : KD K d1 ents) {S : Addr → Option Sp} (hS : ∀ n : Nat, isN_changed n = true → ∃ a, entOf ents n = some a ∧ S a = some (DeedR K C n)) (A_deed : ∀ a sp, S a = some sp → Held P w K mg base 8 a sp) :
    Ok P w K mg base "changed" 9 ["number", "study", "numbers", "row"] (sp_changed K C) := by
  refine ok_of h sc_changed (fun vs H Q E h => ?_) (fun f cdv A outer s H vs Q E hr h => ⟨_, (pss_cons (ps_set (i := 4) sc_changed.nd rfl (Or.inl rfl) (pe_ix (ix_deeds D) (pe_globR (by rfl) T.m_DEEDS_changes) (pv 0) (fun _ _ => rfl)))
      (pss_one (ps_ret (pe_callA (i := 4) A_deed (hr.mono (by decide)) rfl (.inl rfl) (pa_cons (pv 1) (pa_cons (pv 2) (pa_cons (pv 3) pa_nil))))))), ?_⟩)
  · first | (obtain ⟨_, rfl, _⟩ := h; rfl) | (obtain ⟨_, _, rfl, _⟩ := h; rfl) | (obtain ⟨_, _, _, rfl, _⟩ := h; rfl) | (obtain ⟨_, _, _, _, rfl, _⟩ := h; rfl) | (obtain ⟨_, _, _, _, _, rfl, _⟩ := h; rfl) | (obtain ⟨_, _, _, _, _, _, rfl, _⟩ := h; rfl) | (obtain ⟨_, _, _, _, _, _, _, rfl, _⟩ := h; rfl) | (obtain ⟨_, _, _, _, _, _, _, _, rfl, _⟩ := h; rfl) | (obtain ⟨_, _, _, _, _, _, _, _, _, rfl, _⟩ := h; rfl) | (obtain ⟨_, _, _, _, _, _, _, _, _, _, rfl, _⟩ := h; rfl) | (obtain ⟨_, _, _, _, _, _, _, _, _, _, _, rfl, _⟩ := h; rfl) | (obtain ⟨_, _, _, _, _, _, _, _, _, _, _, _, rfl, _⟩ := h; rfl) | (obtain ⟨_, _, _, _, _, _, _, _, _, _, _, _, _, rfl, _⟩ := h; rfl)

  · obtain ⟨n, a, b, c, rfl, hn, q⟩ := h
    obtain ⟨f, hf, hS⟩ := hS n hn
    repeat wtm_at "lwst"
    refine ⟨(n : Int), f, rfl, rfl, hf, ?_⟩
    repeat wtm_at "lwst"
    refine st_callA ⟨f, _, rfl, hS, ?_⟩
    repeat wtm_at "lwst"
    exact q
def sp_answered (K : PySem.W.Frag) (C : Addr) : Sp := Disp K C isN_answered
abbrev s_answered : Stmt := top 130
theorem sc_answered : FnScope ["number", "study", "numbers", "row", "deed"] ["number", "study", "numbers", "row"] (defScope s_answered) := ⟨rfl, rfl, rfl, by decide +kernel, rfl, by decide +kernel, by decide +kernel⟩
theorem ok_answered (T : Tx K mg az an aw d1 d2 d3 C) (h : Has K mg "answered" s_answered ["number", "study", "numbers", "row"]) {ents : List (Int × Addr)} (D : KD K d2 ents) {S : Addr → Option Sp} (hS : ∀ n : Nat, isN_answered n = true → ∃ a, entOf ents n = some a ∧ S a = some (DeedR K C n)) (A_deed : ∀ a sp, S a = some sp → Held P w K mg base 8 a sp) :
    Ok P w K mg base "answered" 9 ["number", "study", "numbers", "row"] (sp_answered K C) := by
  refine ok_of h sc_answered (fun vs H Q E h => ?_) (fun f cdv A outer s H vs Q E hr h => ⟨_, (pss_cons (ps_set (i := 4) sc_answered.nd rfl (Or.inl rfl) (pe_ix (ix_deeds D) (pe_globR (by rfl) T.m_DEEDS_questions) (pv 0) (fun _ _ => rfl)))
      (pss_one (ps_ret (pe_callA (i := 4) A_deed (hr.mono (by decide)) rfl (.inl rfl) (pa_cons (pv 1) (pa_cons (pv 2) (pa_cons (pv 3) pa_nil))))))), ?_⟩)
  · first | (obtain ⟨_, rfl, _⟩ := h; rfl) | (obtain ⟨_, _, rfl, _⟩ := h; rfl) | (obtain ⟨_, _, _, rfl, _⟩ := h; rfl) | (obtain ⟨_, _, _, _, rfl, _⟩ := h; rfl) | (obtain ⟨_, _, _, _, _, rfl, _⟩ := h; rfl) | (obtain ⟨_, _, _, _, _, _, rfl, _⟩ := h; rfl) | (obtain ⟨_, _, _, _, _, _, _, rfl, _⟩ := h; rfl) | (obtain ⟨_, _, _, _, _, _, _, _, rfl, _⟩ := h; rfl) | (obtain ⟨_, _, _, _, _, _, _, _, _, rfl, _⟩ := h; rfl) | (obtain ⟨_, _, _, _, _, _, _, _, _, _, rfl, _⟩ := h; rfl) | (obtain ⟨_, _, _, _, _, _, _, _, _, _, _, rfl, _⟩ := h; rfl) | (obtain ⟨_, _, _, _, _, _, _, _, _, _, _, _, rfl, _⟩ := h; rfl) | (obtain ⟨_, _, _, _, _, _, _, _, _, _, _, _, _, rfl, _⟩ := h; rfl)

  · obtain ⟨n, a, b, c, rfl, hn, q⟩ := h
    obtain ⟨f, hf, hS⟩ := hS n hn
    repeat wtm_at "lwst"
    refine ⟨(n : Int), f, rfl, rfl, hf, ?_⟩
    repeat wtm_at "lwst"
    refine st_callA ⟨f, _, rfl, hS, ?_⟩
    repeat wtm_at "lwst"
    exact q
def sp_looked_at (K : PySem.W.Frag) (C : Addr) : Sp := Disp K C isN_looked_at
abbrev s_looked_at : Stmt := top 111
theorem sc_looked_at : FnScope ["number", "study", "numbers", "row", "deed"] ["number", "study", "numbers", "row"] (defScope s_looked_at) := ⟨rfl, rfl, rfl, by decide +kernel, rfl, by decide +kernel, by decide +kernel⟩
theorem ok_looked_at (T : Tx K mg az an aw d1 d2 d3 C) (h : Has K mg "looked_at" s_looked_at ["number", "study", "numbers", "row"]) {ents : List (Int × Addr)} (D : KD K d3 ents) {S : Addr → Option Sp} (hS : ∀ n : Nat, isN_looked_at n = true → ∃ a, entOf ents n = some a ∧ S a = some (DeedR K C n)) (A_deed : ∀ a sp, S a = some sp → Held P w K mg base 8 a sp) :
    Ok P w K mg base "looked_at" 9 ["number", "study", "numbers", "row"] (sp_looked_at K C) := by
  refine ok_of h sc_looked_at (fun vs H Q E h => ?_) (fun f cdv A outer s H vs Q E hr h => ⟨_, (pss_cons (ps_set (i := 4) sc_looked_at.nd rfl (Or.inl rfl) (pe_ix (ix_deeds D) (pe_globR (by rfl) T.m_DEEDS_outlooks) (pv 0) (fun _ _ => rfl)))
      (pss_one (ps_ret (pe_callA (i := 4) A_deed (hr.mono (by decide)) rfl (.inl rfl) (pa_cons (pv 1) (pa_cons (pv 2) (pa_cons (pv 3) pa_nil))))))), ?_⟩)
  · first | (obtain ⟨_, rfl, _⟩ := h; rfl) | (obtain ⟨_, _, rfl, _⟩ := h; rfl) | (obtain ⟨_, _, _, rfl, _⟩ := h; rfl) | (obtain ⟨_, _, _, _, rfl, _⟩ := h; rfl) | (obtain ⟨_, _, _, _, _, rfl, _⟩ := h; rfl) | (obtain ⟨_, _, _, _, _, _, rfl, _⟩ := h; rfl) | (obtain ⟨_, _, _, _, _, _, _, rfl, _⟩ := h; rfl) | (obtain ⟨_, _, _, _, _, _, _, _, rfl, _⟩ := h; rfl) | (obtain ⟨_, _, _, _, _, _, _, _, _, rfl, _⟩ := h; rfl) | (obtain ⟨_, _, _, _, _, _, _, _, _, _, rfl, _⟩ := h; rfl) | (obtain ⟨_, _, _, _, _, _, _, _, _, _, _, rfl, _⟩ := h; rfl) | (obtain ⟨_, _, _, _, _, _, _, _, _, _, _, _, rfl, _⟩ := h; rfl) | (obtain ⟨_, _, _, _, _, _, _, _, _, _, _, _, _, rfl, _⟩ := h; rfl)

  · obtain ⟨n, a, b, c, rfl, hn, q⟩ := h
    obtain ⟨f, hf, hS⟩ := hS n hn
    repeat wtm_at "lwst"
    refine ⟨(n : Int), f, rfl, rfl, hf, ?_⟩
    repeat wtm_at "lwst"
    refine st_callA ⟨f, _, rfl, hS, ?_⟩
    repeat wtm_at "lwst"
    exact q
end
end Lw

namespace Lw
open PySem PySem.Spec PyProof.Rows L2
local macro_rules | `(tactic| wtm_at "lwsame") => `(tactic| first
  | assumption | exact Same.refl _ | (refine Same.trans (by assumption) ?_; wtm_at "lwsame"))
local macro_rules | `(tactic| wtm_at "lwup") => `(tactic| first
  | assumption
  | ((with_reducible show SqT _ _ _ _); first | (refine sqT_up ?_ (by assumption); wtm_at "lwsame") | (refine KT.sq ?_ _; assumption) | (refine SqT.of ?_; wtm_at "lwup"))
  | ((with_reducible show SqL _ _ _ _); first | (refine sqL_up ?_ (by assumption); wtm_at "lwsame") | (refine SqL.of ?_; wtm_at "lwup"))
  | ((with_reducible show _ = some _); refine (show Same _ _ by wtm_at "lwsame") _ _ (by assumption))
  | ((with_reducible show Fq _ _ _ _); refine Fq.up ?_ (by assumption); wtm_at "lwsame")
  | ((with_reducible show Fs _ _ _ _); refine Fs.up ?_ (by assumption); wtm_at "lwsame")
  | ((with_reducible show Is _ _ _ _); refine Is.up ?_ (by assumption); wtm_at "lwsame")
  | ((with_reducible show Ns _ _ _ _); refine Ns.up ?_ (by assumption); wtm_at "lwsame")
  | ((with_reducible show Eq4 _ _ _ _); refine Eq4.up ?_ (by assumption); wtm_at "lwsame")
  | ((with_reducible show Evs _ _ _ _); refine Evs.up ?_ (by assumption); wtm_at "lwsame"))
local macro_rules | `(tactic| wtm_at "lwst2") => `(tactic| first
  | (with_reducible refine st_drop ?_)
  | (with_reducible refine st_par ?_)
  | (with_reducible refine st_par2 ?_)
  | (with_reducible refine st_un ?_)
  | (with_reducible refine st_rU ?_)
  | (with_reducible refine st_B ?_)
  | (with_reducible refine st_not ?_)
  | (with_reducible refine st_and ?_)
  | (with_reducible refine st_or ?_)
  | (with_reducible refine st_andV ?_)
  | (with_reducible refine st_orV ?_)
  | (with_reducible refine st_isB2 ?_)
  | (with_reducible refine st_ifE ?_)
  | (with_reducible refine st_yes ?_)
  | (with_reducible refine st_forL ?_)
  | (with_reducible refine st_forR ?_)
  | (with_reducible refine st_lcL ?_)
  | (with_reducible refine st_lcR ?_)
  | (with_reducible refine st_lcZ ?_)
  | (with_reducible refine st_bm ?_)
  | (with_reducible refine st_sfld ?_)
  | (with_reducible refine st_gsub ?_)
  | (with_reducible refine st_meth ?_)
  | (with_reducible refine st_sl ?_)
  | (with_reducible refine st_nopart ?_)
  | (with_reducible refine st_part ?_)
  | (with_reducible refine st_isI ?_)
  | (with_reducible refine st_rev ?_)
  | (with_reducible refine st_ckw ?_)
  | (with_reducible refine st_abs ?_)
  | ((with_reducible refine st_eq ?hh ?_); (case hh => exact rfl))
  | ((with_reducible refine st_ne ?hh ?_); (case hh => exact rfl))
  | ((with_reducible refine st_ixT (v := ?vv) (xs := ?xx) ?hh ?hi ?_); (case hh => wtm_at "lwup"); (case hi => exact rfl))
  | ((with_reducible refine st_gtup (xs := ?xx) ?hh ?hi ?_); (case hh => wtm_at "lwup"); (case hi => exact rfl)))
local macro_rules | `(tactic| wtm_at "lwst") => `(tactic| first
  | (with_reducible refine st_cons ?_)
  | ((with_reducible refine st_var (v := ?vv) ?hh ?_); (case hh => exact rfl))
  | (with_reducible refine st_nil ?_)
  | (with_reducible refine st_call ?_)
  | (with_reducible refine st_gname ?_)
  | (with_reducible refine st_c ?_)
  | (with_reducible refine st_seq ?_)
  | (with_reducible refine st_op ?_)
  | (with_reducible refine st_ret ?_)
  | (with_reducible refine st_lst ?_)
  | (with_reducible refine st_gcons ?_)
  | (with_reducible refine st_asg ?_)
  | (with_reducible refine st_isB ?_)
  | (with_reducible refine st_ifS ?_)
  | (with_reducible refine st_nx0 ?_)
  | (with_reducible refine st_test ?_)
  | (with_reducible refine st_fld ?_)
  | (with_reducible refine st_nx ?_)
  | (with_reducible refine st_rI0 ?_)
  | (with_reducible refine st_callB ?_)
  | (with_reducible refine st_gnil ?_)
  | (with_reducible refine st_tup ?_)
  | wtm_at "lwst2")

/-! ## Reading the calls -/
def isL (n : Nat) : Bool := ([4, 6, 8, 24, 25, 26, 27] : List Nat).contains n
structure Cl where
  n : Nat
  xs : List Nat
  row : List Nat
def Cl.tail (c : Cl) : List Nat := if isL c.n = true then c.row.length :: c.row else []
def Cl.flat (c : Cl) : List Nat := c.n :: (c.xs ++ c.tail)
structure OkC (c : Cl) : Prop where
  n28 : c.n ≤ 28
  ok : Okc c.n c.xs c.row
  non : isL c.n = false → c.row = []
section
variable {K : PySem.W.Frag} {H : Hp} {Q : VK}
theorem inV_nz (n : Nat) (l : List Nat) : inV (.int (n : Int)) ((nz l).map V.int) = l.contains n := by
  unfold inV nz
  rw [List.map_map, List.any_map]
  induction l with
  | nil => rfl
  | cons x r ih =>
    rw [List.any_cons, List.contains_cons, ih]
    congr 1
    show eqV (.int (x : Int)) (.int (n : Int)) = (n == x)
    show ((x : Int) == (n : Int)) = (n == x)
    rw [Bool.eq_iff_iff, beq_iff_eq, beq_iff_eq]
    omega
theorem flat_nz (l : List Nat) : ((nz l).map V.int).all flatV = true := by
  rw [List.all_map, List.all_eq_true]
  intro x _
  rfl
theorem st_notIn {a : Addr} {n : Nat} {l : List Nat} (h : KT K a ((nz l).map V.int)) (q : Q (.bl (!l.contains n)) H) : rIn K true (.int (n : Int)) (.ref a) H Q :=
  ⟨a, _, rfl, .inr (h.sq H), rfl, flat_nz l, by rw [if_pos rfl, inV_nz]; exact q⟩
theorem get_at {pre post : List Nat} {x : Nat} : ((nz (pre ++ x :: post)).map V.int)[pre.length]? = some (.int (x : Int)) := by
  rw [nz_get (by simp)]
  rw [List.getD_eq_getElem?_getD, List.getElem?_append_right (Nat.le_refl _), Nat.sub_self]
  rfl
theorem cut_seg {pre seg post : List Nat} : cutV ((nz (pre ++ (seg ++ post))).map V.int) (some ((pre.length : Nat) : Int)) (some ((pre.length + seg.length : Nat) : Int)) = (nz seg).map V.int := by
  rw [cut_mid _ _ _ (by rw [nzV_len]; simp)]
  unfold nz
  rw [List.map_map, List.map_append, List.drop_left' (by simp), List.map_append, List.take_left' (by simp), List.map_map]
end
section
variable {P : Program} {w : World} {K : PySem.W.Frag} {mg : Str → Option Value} {base : Heap} {az an aw d1 d2 d3 C : Addr}

def sp_read_row (K : PySem.W.Frag) (C : Addr) : Sp := fun vs H Q _ => ∃ (a : Addr) (c : Cl) (pre post : List Nat), vs = [.ref a, .int (c.n : Int), .int (pre.length : Int)] ∧ SqL K H a ((nz (pre ++ (c.tail ++ post))).map V.int) ∧ (isL c.n = false → c.row = []) ∧
  ∀ t r H', Same H H' → SqT K H' t [.ref r, .int ((pre.length + c.tail.length : Nat) : Int)] → H r = none → H' r = some (.lst ((nz c.row).map V.int)) → Q (.ref t) H'
abbrev s_read_row : Stmt := top 135
theorem sc_read_row : FnScope ["calls", "number", "at", "end"] ["calls", "number", "at"] (defScope s_read_row) := ⟨rfl, rfl, rfl, by decide +kernel, rfl, by decide +kernel, by decide +kernel⟩
theorem ok_read_row (T : Tx K mg az an aw d1 d2 d3 C) (h : Has K mg "read_row" s_read_row ["calls", "number", "at"]) :
    Ok P w K mg base "read_row" 1 ["calls", "number", "at"] (sp_read_row K C) := by
  refine ok_of h sc_read_row (fun vs H Q E h => ?_) (fun f cdv A outer s H vs Q E hr h => ⟨_, (pss_cons (ps_if (pt_cmpR op_notIn_seq (pv 1) (pe_globR (by rfl) T.m_WITH_LIST) rfl) (pss_one (ps_ret (pe_tup (pa_cons (pe_lst pa_nil) (pa_cons (pv 2) pa_nil))))) pss_nil)
      (pss_cons (ps_set (i := 3) sc_read_row.nd rfl (Or.inl rfl) (pe_op op_add (pe_op op_add (pv 2) pe_int) (pe_ix (ix_listK (K := K) rfl) (pv 0) (pv 2) (fun _ _ => rfl))))
      (pss_one (ps_ret (pe_tup (pa_cons (pe_slice (sl_listK (K := K) rfl) (pv 0) (po_some (pe_op op_add (pv 2) pe_int)) (po_some (pv 3))) (pa_cons (pv 3) pa_nil))))))), ?_⟩)
  · first | (obtain ⟨_, rfl, _⟩ := h; rfl) | (obtain ⟨_, _, rfl, _⟩ := h; rfl) | (obtain ⟨_, _, _, rfl, _⟩ := h; rfl) | (obtain ⟨_, _, _, _, rfl, _⟩ := h; rfl) | (obtain ⟨_, _, _, _, _, rfl, _⟩ := h; rfl) | (obtain ⟨_, _, _, _, _, _, rfl, _⟩ := h; rfl) | (obtain ⟨_, _, _, _, _, _, _, rfl, _⟩ := h; rfl) | (obtain ⟨_, _, _, _, _, _, _, _, rfl, _⟩ := h; rfl) | (obtain ⟨_, _, _, _, _, _, _, _, _, rfl, _⟩ := h; rfl) | (obtain ⟨_, _, _, _, _, _, _, _, _, _, rfl, _⟩ := h; rfl) | (obtain ⟨_, _, _, _, _, _, _, _, _, _, _, rfl, _⟩ := h; rfl) | (obtain ⟨_, _, _, _, _, _, _, _, _, _, _, _, rfl, _⟩ := h; rfl) | (obtain ⟨_, _, _, _, _, _, _, _, _, _, _, _, _, rfl, _⟩ := h; rfl)

  · obtain ⟨a, c, pre, post, rfl, ha, hn, k⟩ := h
    repeat wtm_at "lwst"
    refine st_notIn T.wl ?_
    repeat wtm_at "lwst"
    refine cond_2 (fun b => ?_) (fun b => ?_)
    · rw [Bool.not_eq_true'] at b
      repeat wtm_at "lwst"
      refine new_l (by simp) fun r H1 hr1 e1 h1 => ?_
      repeat wtm_at "lwst"
      refine new_t (K := K) (by simp) fun t H2 e2 ht => ?_
      refine k t r H2 (e1.trans e2) ?_ hr1 ?_
      · have e : c.tail = [] := by unfold Cl.tail; rw [if_neg (by unfold isL; rw [b]; simp)]
        rw [e]
        exact ht
      · rw [hn b]
        exact e2 _ _ h1
    · rw [Bool.not_eq_false'] at b
      have e : c.tail = c.row.length :: c.row := by unfold Cl.tail; rw [if_pos (by unfold isL; exact b)]
      rw [e] at ha k
      repeat wtm_at "lwst"
      refine st_ixL (v := .int ((c.row.length : Nat) : Int)) ha (atI_nat (j := pre.length) get_at) ?_
      repeat wtm_at "lwst"
      have ha2 : SqL K H a ((nz ((pre ++ [c.row.length]) ++ (c.row ++ post))).map V.int) := by
        rw [List.append_assoc]
        exact ha
      refine st_slL ha2 fun r H1 hr1 e1 h1 => ?_
      rw [show ((pre.length : Int) + 1 = (((pre ++ [c.row.length]).length : Nat) : Int)) by simp, ← Int.natCast_add, cut_seg] at h1
      repeat wtm_at "lwst"
      refine new_t (K := K) (by simp) fun t H2 e2 ht => ?_
      refine k t r H2 (e1.trans e2) ?_ hr1 (e2 _ _ h1)
      rw [show ((pre.length + (c.row.length :: c.row).length : Nat) : Int) = (pre.length : Int) + 1 + (c.row.length : Int) by simp; omega]
      exact ht
def sp_read_call (K : PySem.W.Frag) (C : Addr) : Sp := fun vs H Q _ => ∃ (a : Addr) (c : Cl) (pre post : List Nat), vs = [.ref a, .int (pre.length : Int)] ∧ SqL K H a ((nz (pre ++ (c.flat ++ post))).map V.int) ∧ OkC c ∧
  ∀ t x r H', Same H H' → SqT K H' t [.int (c.n : Int), .ref x, .ref r, .int ((pre.length + c.flat.length : Nat) : Int)] → H x = none → H r = none → H' x = some (.lst ((nz c.xs).map V.int)) → H' r = some (.lst ((nz c.row).map V.int)) → Q (.ref t) H'
theorem numbers_at {n : Nat} (h : n ≤ 28) : ((nz [2, 5, 0, 4, 2, 2, 1, 0, 2, 3, 3, 1, 1, 1, 3, 4, 4, 3, 1, 1, 1, 4, 2, 5, 1, 0, 0, 0, 0]).map V.int)[n]? = some (.int ((argc n : Nat) : Int)) := nz_get (by show n < 29; omega)
abbrev s_read_call : Stmt := top 136
theorem sc_read_call : FnScope ["calls", "at", "number", "end", "row", "behind"] ["calls", "at"] (defScope s_read_call) := ⟨rfl, rfl, rfl, by decide +kernel, rfl, by decide +kernel, by decide +kernel⟩
theorem ok_read_call (T : Tx K mg az an aw d1 d2 d3 C) (h : Has K mg "read_call" s_read_call ["calls", "at"]) (O_read_row : Ok P w K mg base "read_row" 1 ["calls", "number", "at"] (sp_read_row K C)) :
    Ok P w K mg base "read_call" 2 ["calls", "at"] (sp_read_call K C) := by
  refine ok_of h sc_read_call (fun vs H Q E h => ?_) (fun f cdv A outer s H vs Q E hr h => ⟨_, (pss_cons (ps_set (i := 2) sc_read_call.nd rfl (Or.inl rfl) (pe_ix (ix_listK (K := K) rfl) (pv 0) (pv 1) (fun _ _ => rfl)))
      (pss_cons (ps_set (i := 3) sc_read_call.nd rfl (Or.inl rfl) (pe_op op_add (pe_op op_add (pv 1) pe_int) (pe_ix (ix_tupK (K := K) rfl) (pe_globR (by rfl) T.m_NUMBERS) (pv 2) (fun _ _ => rfl))))
      (pss_cons (ps_asg (pe_go O_read_row (hr.mono (by decide)) (by rfl) (pa_cons (pv 0) (pa_cons (pv 2) (pa_cons (pv 3) pa_nil)))) (pg_tupK (K := K) (n := 2) rfl rfl (pgs_cons (pg_name (i := 4) sc_read_call.nd rfl (Or.inl rfl)) (pgs_cons (pg_name (i := 5) sc_read_call.nd rfl (Or.inl rfl)) pgs_nil))))
      (pss_one (ps_ret (pe_tup (pa_cons (pv 2) (pa_cons (pe_slice (sl_listK (K := K) rfl) (pv 0) (po_some (pe_op op_add (pv 1) pe_int)) (po_some (pv 3))) (pa_cons (pv 4) (pa_cons (pv 5) pa_nil)))))))))), ?_⟩)
  · first | (obtain ⟨_, rfl, _⟩ := h; rfl) | (obtain ⟨_, _, rfl, _⟩ := h; rfl) | (obtain ⟨_, _, _, rfl, _⟩ := h; rfl) | (obtain ⟨_, _, _, _, rfl, _⟩ := h; rfl) | (obtain ⟨_, _, _, _, _, rfl, _⟩ := h; rfl) | (obtain ⟨_, _, _, _, _, _, rfl, _⟩ := h; rfl) | (obtain ⟨_, _, _, _, _, _, _, rfl, _⟩ := h; rfl) | (obtain ⟨_, _, _, _, _, _, _, _, rfl, _⟩ := h; rfl) | (obtain ⟨_, _, _, _, _, _, _, _, _, rfl, _⟩ := h; rfl) | (obtain ⟨_, _, _, _, _, _, _, _, _, _, rfl, _⟩ := h; rfl) | (obtain ⟨_, _, _, _, _, _, _, _, _, _, _, rfl, _⟩ := h; rfl) | (obtain ⟨_, _, _, _, _, _, _, _, _, _, _, _, rfl, _⟩ := h; rfl) | (obtain ⟨_, _, _, _, _, _, _, _, _, _, _, _, _, rfl, _⟩ := h; rfl)

  · obtain ⟨a, c, pre, post, rfl, ha, ok, k⟩ := h
    have ha0 : SqL K H a ((nz (pre ++ c.n :: ((c.xs ++ c.tail) ++ post))).map V.int) := ha
    repeat wtm_at "lwst"
    refine st_ixL (v := .int ((c.n : Nat) : Int)) ha0 (atI_nat (j := pre.length) get_at) ?_
    repeat wtm_at "lwst"
    refine st_ixT (T.nb.sq H) (atI_nat (j := c.n) (numbers_at ok.n28)) ?_
    repeat wtm_at "lwst"
    have ha1 : SqL K H a ((nz ((pre ++ [c.n] ++ c.xs) ++ (c.tail ++ post))).map V.int) := by
      have e : pre ++ [c.n] ++ c.xs ++ (c.tail ++ post) = pre ++ c.n :: ((c.xs ++ c.tail) ++ post) := by simp
      rw [e]
      exact ha0
    have el : (pre.length : Int) + 1 + ((argc c.n : Nat) : Int) = (((pre ++ [c.n] ++ c.xs).length : Nat) : Int) := by
      rw [← ok.ok.len]
      simp
      omega
    rw [el]
    refine ⟨a, c, pre ++ [c.n] ++ c.xs, post, rfl, ha1, ok.non, fun t r H1 e1 ht hrn hr1 => ?_⟩
    repeat wtm_at "lwst"
    have ha2 : SqL K H1 a ((nz ((pre ++ [c.n]) ++ (c.xs ++ (c.tail ++ post)))).map V.int) := by
      have e : (pre ++ [c.n]) ++ (c.xs ++ (c.tail ++ post)) = (pre ++ [c.n] ++ c.xs) ++ (c.tail ++ post) := by simp
      rw [e]
      exact sqL_up e1 ha1
    refine st_slL ha2 fun x H2 hxn e2 h2 => ?_
    rw [show ((pre.length : Int) + 1 = (((pre ++ [c.n]).length : Nat) : Int)) by simp, show (((pre ++ [c.n] ++ c.xs).length : Nat) : Int) = (((pre ++ [c.n]).length + c.xs.length : Nat) : Int) by simp; omega, cut_seg] at h2
    repeat wtm_at "lwst"
    refine new_t (K := K) (by simp) fun t2 H3 e3 ht2 => ?_
    refine k t2 x r H3 ((e1.trans e2).trans e3) ?_ (e1.free hxn) hrn (e3 _ _ h2) (e3 _ _ (e2 _ _ hr1))
    have e : pre.length + c.flat.length = (pre ++ [c.n] ++ c.xs).length + c.tail.length := by
      unfold Cl.flat
      simp
      omega
    rw [e]
    exact ht2
/-- a read call -/
structure Rc (K : PySem.W.Frag) (N : Hp) (D : Addr) (H : Hp) (v : V) (c : Cl) (t x r : Addr) : Prop where
  v : v = .ref t
  t : SqT K H t [.int (c.n : Int), .ref x, .ref r]
  xD : x ≠ D
  rD : r ≠ D
  xN : N x = none
  rN : N r = none
  x : H x = some (.lst ((nz c.xs).map V.int))
  r : H r = some (.lst ((nz c.row).map V.int))
theorem Rc.up {K : PySem.W.Frag} {N : Hp} {D t x r : Addr} {H H' : Hp} {v : V} {c : Cl} (e : Same H H') (h : Rc K N D H v c t x r) : Rc K N D H' v c t x r := ⟨h.v, sqT_up e h.t, h.xD, h.rD, h.xN, h.rN, e _ _ h.x, e _ _ h.r⟩
theorem Rc.mu {K : PySem.W.Frag} {N : Hp} {D t x r : Addr} {H : Hp} {v : V} {c : Cl} {acc : List V} {o : HO} (hD : H D = some (.lst acc)) (h : Rc K N D H v c t x r) : Rc K N D (upd H D o) v c t x r :=
  ⟨h.v, sqT_mut hD h.t, h.xD, h.rD, h.xN, h.rN, by rw [upd_ne h.xD]; exact h.x, by rw [upd_ne h.rD]; exact h.r⟩
def Rcs (K : PySem.W.Frag) (N : Hp) (D : Addr) (H : Hp) (v : V) (c : Cl) : Prop := ∃ t x r, Rc K N D H v c t x r
def sp_read_calls (K : PySem.W.Frag) (C : Addr) : Sp := fun vs H Q _ => ∃ (a : Addr) (cs : List Cl), vs = [.ref a] ∧ SqL K H a ((nz (cs.flatMap Cl.flat)).map V.int) ∧ (∀ c ∈ cs, OkC c) ∧ cs.length ≤ 60 ∧
  ∀ p ws H', H p = none → Same H H' → H' p = some (.lst ws) → All2 (Rcs K H p H') ws cs → Q (.ref p) H'
theorem flat_split {cs : List Cl} {i : Nat} {c : Cl} (h : cs[i]? = some c) : cs.flatMap Cl.flat = (cs.take i).flatMap Cl.flat ++ (c.flat ++ (cs.drop (i + 1)).flatMap Cl.flat) := by
  have e : cs = cs.take i ++ c :: cs.drop (i + 1) := by
    obtain ⟨hl, he⟩ := List.getElem?_eq_some_iff.mp h
    rw [← he, ← List.drop_eq_getElem_cons hl, List.take_append_drop]
  conv => lhs; rw [e]
  rw [List.flatMap_append, List.flatMap_cons]
abbrev s_read_calls : Stmt := top 137
theorem sc_read_calls : FnScope ["calls", "found", "at", "number", "numbers", "row"] ["calls"] (defScope s_read_calls) := ⟨rfl, rfl, rfl, by decide +kernel, rfl, by decide +kernel, by decide +kernel⟩
theorem ok_read_calls (T : Tx K mg az an aw d1 d2 d3 C) (h : Has K mg "read_calls" s_read_calls ["calls"]) (O_read_call : Ok P w K mg base "read_call" 2 ["calls", "at"] (sp_read_call K C)) :
    Ok P w K mg base "read_calls" 3 ["calls"] (sp_read_calls K C) := by
  refine ok_of h sc_read_calls (fun vs H Q E h => ?_) (fun f cdv A outer s H vs Q E hr h => ⟨_, (pss_cons (ps_par (i := 1) (j := 2) (by rfl) sc_read_calls.nd rfl rfl (by decide) rfl rfl (pa_cons (pe_lst pa_nil) (pa_cons pe_int pa_nil)) (by rfl))
      (pss_cons (ps_while PassesOwn.never (pt_cmpR op_lt (pv 2) (pe_callB (cb_lenK (K := K) rfl) (by rfl) T.b_len PySem.boot_len (pa_cons (pv 0) pa_nil)) (nomark _)) (pss_cons (ps_asg (pe_go O_read_call (hr.mono (by decide)) (by rfl) (pa_cons (pv 0) (pa_cons (pv 2) pa_nil))) (pg_tupK (K := K) (n := 4) rfl rfl (pgs_cons (pg_name (i := 3) sc_read_calls.nd rfl (Or.inl rfl)) (pgs_cons (pg_name (i := 4) sc_read_calls.nd rfl (Or.inl rfl)) (pgs_cons (pg_name (i := 5) sc_read_calls.nd rfl (Or.inl rfl)) (pgs_cons (pg_name (i := 2) sc_read_calls.nd rfl (Or.inl rfl)) pgs_nil))))))
      (pss_one (ps_expr (pe_bm PySem.F.plainAttrs_list PySem.F.slot_list_append PySem.F.type_list_append mt_append (pv 1) (pa_cons (pe_tup (pa_cons (pv 3) (pa_cons (pv 4) (pa_cons (pv 5) pa_nil)))) pa_nil))))))
      (pss_one (ps_ret (pv 1))))), ?_⟩)
  · first | (obtain ⟨_, rfl, _⟩ := h; rfl) | (obtain ⟨_, _, rfl, _⟩ := h; rfl) | (obtain ⟨_, _, _, rfl, _⟩ := h; rfl) | (obtain ⟨_, _, _, _, rfl, _⟩ := h; rfl) | (obtain ⟨_, _, _, _, _, rfl, _⟩ := h; rfl) | (obtain ⟨_, _, _, _, _, _, rfl, _⟩ := h; rfl) | (obtain ⟨_, _, _, _, _, _, _, rfl, _⟩ := h; rfl) | (obtain ⟨_, _, _, _, _, _, _, _, rfl, _⟩ := h; rfl) | (obtain ⟨_, _, _, _, _, _, _, _, _, rfl, _⟩ := h; rfl) | (obtain ⟨_, _, _, _, _, _, _, _, _, _, rfl, _⟩ := h; rfl) | (obtain ⟨_, _, _, _, _, _, _, _, _, _, _, rfl, _⟩ := h; rfl) | (obtain ⟨_, _, _, _, _, _, _, _, _, _, _, _, rfl, _⟩ := h; rfl) | (obtain ⟨_, _, _, _, _, _, _, _, _, _, _, _, _, rfl, _⟩ := h; rfl)

  · obtain ⟨a, cs, rfl, ha, ok, h60, k⟩ := h
    repeat wtm_at "lwst"
    refine new_l (by simp) fun p H1 hp e1 h1 => ?_
    repeat wtm_at "lwst"
    refine st_while (fun m σ H2 => ∃ i acc o3 o4 o5, i + m = cs.length ∧ Same H H2 ∧ H2 p = some (.lst acc) ∧ All2 (Rcs K H p H2) acc (cs.take i) ∧ σ = [some (.ref a), some (.ref p), some (.int ((((cs.take i).flatMap Cl.flat).length : Nat) : Int)), o3, o4, o5]) cs.length ⟨0, [], none, none, none, by omega, e1, h1, .nil, rfl⟩ ?_
    rintro m σ H2 ⟨i, acc, o3, o4, o5, him, e2, h2, hacc, rfl⟩
    repeat wtm_at "lwst"
    refine st_len (sqL_up e2 ha) ?_
    repeat wtm_at "lwst"
    rw [nzV_len]
    cases m with
    | zero =>
      have hi : i = cs.length := by omega
      rw [hi, List.take_length] at hacc ⊢
      refine whB_f (by simp) ?_
      repeat wtm_at "lwst"
      exact k p acc H2 hp e2 h2 hacc
    | succ m =>
      have hi : i < cs.length := by omega
      have hc : cs[i]? = some cs[i] := List.getElem?_eq_getElem hi
      have es := flat_split hc
      have el : (cs.flatMap Cl.flat).length = ((cs.take i).flatMap Cl.flat).length + (cs[i].flat.length + ((cs.drop (i + 1)).flatMap Cl.flat).length) := by
        rw [es]
        simp
      have fl : 1 ≤ cs[i].flat.length := by
        unfold Cl.flat
        simp
      refine whB_t (decide_eq_true (by omega)) ?_
      repeat wtm_at "lwst"
      have ha2 := sqL_up e2 ha
      rw [es] at ha2
      refine ⟨a, cs[i], _, _, rfl, ha2, ok _ (List.getElem_mem hi), fun t x r H3 e3 ht hxn hrn hx hr3 => ?_⟩
      repeat wtm_at "lwst"
      have h3 := e3 _ _ h2
      refine bm_list (SqL.of h3) ?_
      repeat wtm_at "lwst"
      refine new_t (K := K) (by simp) fun t2 H4 e4 ht2 => ?_
      have h4 := e4 _ _ h3
      repeat wtm_at "lwst"
      refine st_append h4 (by rw [hacc.len, List.length_take]; omega) ?_
      repeat wtm_at "lwst"
      have xp := born h2 hxn
      have rp := born h2 hrn
      refine ⟨m, by omega, i + 1, acc ++ [.ref t2], some (.int ((cs[i].n : Nat) : Int)), some (.ref x), some (.ref r), by omega, ?_, upd_same, ?_, ?_⟩
      · exact same_mut ((e2.trans e3).trans e4) hp
      · rw [List.take_succ, hc]
        refine All2.app (hacc.imp fun v c ⟨t, x, r, q⟩ => ⟨t, x, r, (q.up (e3.trans e4)).mu h4⟩) (All2.one ?_)
        exact ⟨t2, x, r, Rc.mu h4 ⟨rfl, ht2, xp, rp, e2.free hxn, e2.free hrn, e4 _ _ hx, e4 _ _ hr3⟩⟩
      · have e : ((cs.take (i + 1)).flatMap Cl.flat).length = ((cs.take i).flatMap Cl.flat).length + cs[i].flat.length := by
          rw [List.take_succ, hc, List.flatMap_append, List.length_append]
          show _ + (cs[i].flat ++ []).length = _
          rw [List.append_nil]
        rw [e]
        rfl
end
end Lw

namespace Lw
open PySem PySem.Spec PyProof.Rows L2
local macro_rules | `(tactic| wtm_at "lwsame") => `(tactic| first
  | assumption | exact Same.refl _ | (refine Same.trans (by assumption) ?_; wtm_at "lwsame"))
local macro_rules | `(tactic| wtm_at "lwup") => `(tactic| first
  | assumption
  | ((with_reducible show SqT _ _ _ _); first | (refine sqT_up ?_ (by assumption); wtm_at "lwsame") | (refine KT.sq ?_ _; assumption) | (refine SqT.of ?_; wtm_at "lwup"))
  | ((with_reducible show SqL _ _ _ _); first | (refine sqL_up ?_ (by assumption); wtm_at "lwsame") | (refine SqL.of ?_; wtm_at "lwup"))
  | ((with_reducible show _ = some _); refine (show Same _ _ by wtm_at "lwsame") _ _ (by assumption))
  | ((with_reducible show Fq _ _ _ _); refine Fq.up ?_ (by assumption); wtm_at "lwsame")
  | ((with_reducible show Fs _ _ _ _); refine Fs.up ?_ (by assumption); wtm_at "lwsame")
  | ((with_reducible show Is _ _ _ _); refine Is.up ?_ (by assumption); wtm_at "lwsame")
  | ((with_reducible show Ns _ _ _ _); refine Ns.up ?_ (by assumption); wtm_at "lwsame")
  | ((with_reducible show Eq4 _ _ _ _); refine Eq4.up ?_ (by assumption); wtm_at "lwsame")
  | ((with_reducible show Evs _ _ _ _); refine Evs.up ?_ (by assumption); wtm_at "lwsame"))
local macro_rules | `(tactic| wtm_at "lwst2") => `(tactic| first
  | (with_reducible refine st_drop ?_)
  | (with_reducible refine st_par ?_)
  | (with_reducible refine st_par2 ?_)
  | (with_reducible refine st_un ?_)
  | (with_reducible refine st_rU ?_)
  | (with_reducible refine st_B ?_)
  | (with_reducible refine st_not ?_)
  | (with_reducible refine st_and ?_)
  | (with_reducible refine st_or ?_)
  | (with_reducible refine st_andV ?_)
  | (with_reducible refine st_orV ?_)
  | (with_reducible refine st_isB2 ?_)
  | (with_reducible refine st_ifE ?_)
  | (with_reducible refine st_yes ?_)
  | (with_reducible refine st_forL ?_)
  | (with_reducible refine st_forR ?_)
  | (with_reducible refine st_lcL ?_)
  | (with_reducible refine st_lcR ?_)
  | (with_reducible refine st_lcZ ?_)
  | (with_reducible refine st_bm ?_)
  | (with_reducible refine st_sfld ?_)
  | (with_reducible refine st_gsub ?_)
  | (with_reducible refine st_meth ?_)
  | (with_reducible refine st_sl ?_)
  | (with_reducible refine st_nopart ?_)
  | (with_reducible refine st_part ?_)
  | (with_reducible refine st_isI ?_)
  | (with_reducible refine st_rev ?_)
  | (with_reducible refine st_ckw ?_)
  | (with_reducible refine st_abs ?_)
  | ((with_reducible refine st_eq ?hh ?_); (case hh => exact rfl))
  | ((with_reducible refine st_ne ?hh ?_); (case hh => exact rfl))
  | ((with_reducible refine st_ixT (v := ?vv) (xs := ?xx) ?hh ?hi ?_); (case hh => wtm_at "lwup"); (case hi => exact rfl))
  | ((with_reducible refine st_gtup (xs := ?xx) ?hh ?hi ?_); (case hh => wtm_at "lwup"); (case hi => exact rfl)))
local macro_rules | `(tactic| wtm_at "lwst") => `(tactic| first
  | (with_reducible refine st_cons ?_)
  | ((with_reducible refine st_var (v := ?vv) ?hh ?_); (case hh => exact rfl))
  | (with_reducible refine st_nil ?_)
  | (with_reducible refine st_call ?_)
  | (with_reducible refine st_gname ?_)
  | (with_reducible refine st_c ?_)
  | (with_reducible refine st_seq ?_)
  | (with_reducible refine st_op ?_)
  | (with_reducible refine st_ret ?_)
  | (with_reducible refine st_lst ?_)
  | (with_reducible refine st_gcons ?_)
  | (with_reducible refine st_asg ?_)
  | (with_reducible refine st_isB ?_)
  | (with_reducible refine st_ifS ?_)
  | (with_reducible refine st_nx0 ?_)
  | (with_reducible refine st_test ?_)
  | (with_reducible refine st_fld ?_)
  | (with_reducible refine st_nx ?_)
  | (with_reducible refine st_rI0 ?_)
  | (with_reducible refine st_callB ?_)
  | (with_reducible refine st_gnil ?_)
  | (with_reducible refine st_tup ?_)
  | wtm_at "lwst2")

/-! ## The answers -/
theorem frsL (l : List Rw) : (frs l).length = 2 * l.length := by
  unfold frs
  induction l with
  | nil => rfl
  | cons x r ih => rw [List.flatMap_cons, List.length_append, ih]; show 2 + 2 * r.length = 2 * (r.length + 1); omega
theorem ans_len {m : M} {n : Nat} {xs row : List Nat} (W : Wf m) (ok : Okc n xs row) : (onM m n xs row).2.length ≤ 1000 := by
  have hl := ok.len
  have fl : ∀ (z : Int) (l : List Rw), l.length ≤ 400 → (z :: frs l).length ≤ 1000 := fun z l h => by
    rw [List.length_cons, frsL]
    omega
  match n with
  | 0 => obtain ⟨a, b, rfl⟩ := len2 hl; exact Nat.zero_le _
  | 1 => obtain ⟨c, a, r, n, d, rfl⟩ := len5 hl; show (oAdd m c a r n d).2.length ≤ 1000; unfold oAdd; (repeat' split) <;> simp
  | 2 => obtain rfl := len0 hl; show (oRemove m).2.length ≤ 1000; unfold oRemove; split <;> simp
  | 3 => obtain ⟨k, c, a, r, rfl⟩ := len4 hl; show (oLog m k c a r).2.length ≤ 1000; unfold oLog; (repeat' split) <;> simp
  | 4 => obtain ⟨k, c, rfl⟩ := len2 hl; show (oPolicy m k c row).2.length ≤ 1000; unfold oPolicy; (repeat' split) <;> simp
  | 5 => obtain ⟨a, b, rfl⟩ := len2 hl; show (oCopy m a b).2.length ≤ 1000; unfold oCopy; split <;> simp
  | 6 => obtain ⟨c, rfl⟩ := len1 hl; show (oModel m c row).2.length ≤ 1000; unfold oModel; (repeat' split) <;> simp
  | 7 => obtain rfl := len0 hl; exact show 1 ≤ 1000 by decide
  | 8 => obtain ⟨c, x, rfl⟩ := len2 hl; show (oTruth m c x row).2.length ≤ 1000; unfold oTruth; (repeat' split) <;> simp
  | 9 => obtain ⟨k, c, a, rfl⟩ := len3 hl; show (oProp m k c a).length ≤ 1000; unfold oProp; split <;> first | exact fl _ _ (by simp) | simp
  | 10 => obtain ⟨k, c, a, rfl⟩ := len3 hl; show (oEst m k c a).length ≤ 1000; unfold oEst; split <;> first | exact fl _ _ (by simp) | simp
  | 11 => obtain ⟨k, rfl⟩ := len1 hl; show (oNorm m k).length ≤ 1000; unfold oNorm; (repeat' split) <;> first | exact fl _ _ (by simp) | simp
  | 12 => obtain ⟨k, rfl⟩ := len1 hl; show (oReplay m k).length ≤ 1000; unfold oReplay; (repeat' split) <;> first | exact fl _ _ (by simp) | simp
  | 13 => obtain ⟨k, rfl⟩ := len1 hl; show (oEff m k).length ≤ 1000; unfold oEff; (repeat' split) <;> first | exact fl _ _ (by simp) | simp
  | 14 => obtain ⟨k, c, a, rfl⟩ := len3 hl; show (oVar m k c a).length ≤ 1000; unfold oVar; split <;> first | exact fl _ _ (by simp) | simp
  | 15 => obtain ⟨k, c, a, f, rfl⟩ := len4 hl; show (oInt m k c a f).length ≤ 1000; unfold oInt; (repeat' split) <;> first | exact fl _ _ (by simp) | simp
  | 16 => obtain ⟨k, c, a, f, rfl⟩ := len4 hl; show (oComp m k c a f).length ≤ 1000; unfold oComp; split <;> first | exact fl _ _ (by simp) | simp
  | 17 =>
    obtain ⟨k, c, a, rfl⟩ := len3 hl
    show (oCtx m k c a).length ≤ 1000
    unfold oCtx
    split
    · have h := flat_len (n := 3) (ctxAns m k c a) (List.range m.nc) fun x _ => by
        unfold ctxAns
        rw [List.length_cons, frsL]
        simp
      rw [List.length_range] at h
      have := W.nc6
      rw [List.length_cons]
      omega
    · simp
  | 18 => obtain ⟨k, rfl⟩ := len1 hl; show (oGreat m k).length ≤ 1000; unfold oGreat; (repeat' split) <;> first | exact fl _ _ (by simp) | simp
  | 19 =>
    obtain ⟨c, rfl⟩ := len1 hl
    show (oModelInfo m c).length ≤ 1000
    unfold oModelInfo
    split
    · rename_i h
      refine fl _ _ ?_
      have hc : c < m.mo.length := by rw [W.mo.1]; exact of_decide_eq_true h
      rw [List.getD_eq_getElem?_getD, List.getElem?_eq_getElem hc, Option.getD_some, (W.mo.2 _ (List.getElem_mem hc)).1]
      have := W.na5
      omega
    · simp
  | 20 => obtain ⟨k, rfl⟩ := len1 hl; show (oTrue m k).length ≤ 1000; unfold oTrue; split <;> first | exact fl _ _ (by simp) | simp
  | 21 => obtain ⟨k, c, a, f, rfl⟩ := len4 hl; show (oExp m k c a f).length ≤ 1000; unfold oExp; (repeat' split) <;> first | exact fl _ _ (by simp) | simp
  | 22 =>
    obtain ⟨g, k, rfl⟩ := len2 hl
    show (oUns m g k).length ≤ 1000
    unfold oUns
    split
    · have h := flat_len (n := m.na) (fun c => ((List.range m.na).filter (unsupAt m g k c)).map fun a => (c, a)) (List.range m.nc) fun c _ => by
        rw [List.length_map]
        have := List.length_filter_le (unsupAt m g k c) (List.range m.na)
        rw [List.length_range] at this
        exact this
      rw [List.length_range] at h
      have h30 : m.nc * m.na ≤ 6 * 5 := Nat.mul_le_mul W.nc6 W.na5
      have h2 := flat_len (n := 2) (fun p : Nat × Nat => [((p.1 : Nat) : Int), ((p.2 : Nat) : Int)]) (unsup m g k) fun p _ => by simp
      have h3 : (unsup m g k).length ≤ 30 := Nat.le_trans h h30
      rw [List.length_cons]
      have h4 : (pairs (unsup m g k)).length ≤ (unsup m g k).length * 2 := h2
      omega
    · simp
  | 23 => obtain ⟨k, c, a, f, g, rfl⟩ := len5 hl; show (oBoot m k c a f g).length ≤ 1000; unfold oBoot; (repeat' split) <;> first | exact fl _ _ (by show 3 ≤ 400; decide) | simp
  | 24 => obtain ⟨k, rfl⟩ := len1 hl; show (oPrec k row).length ≤ 1000; unfold oPrec; split <;> first | exact fl _ _ (by simp) | simp
  | 25 => obtain rfl := len0 hl; show (oRank row).length ≤ 1000; unfold oRank; split <;> first | exact fl _ _ (by simp) | simp
  | 26 => obtain rfl := len0 hl; show (oGains row).length ≤ 1000; unfold oGains; (repeat' split) <;> first | exact fl _ _ (by simp) | simp
  | 27 => obtain rfl := len0 hl; show (oOrder row).length ≤ 1000; unfold oOrder; split <;> first | (rw [List.length_cons, List.length_cons, frsL]; simp) | simp
  | 28 => obtain rfl := len0 hl; exact show 4 ≤ 1000 by decide
  | n + 29 => obtain rfl := len0 (show xs.length = 0 from hl); exact Nat.zero_le _
def goodNew (n k : Nat) : Bool := (decide (1 ≤ n) && decide (n ≤ 6)) && (decide (1 ≤ k) && decide (k ≤ 5))
section
variable {K : PySem.W.Frag} {C : Addr} {H : Hp} {L : Lay} {m : M}
theorem Rn.off {F : List Addr} {v : V} {ns : List Nat} {f : Addr} {od : Obj} {ys : List V} (hf : H f = some (.frz od (.lst ys))) (h : Rn F H v ns) : Rn F (hide H f) v ns :=
  let ⟨p, a, b, c⟩ := h
  ⟨p, a, b, by rw [hide_ne (fun e => by rw [e, hf] at c; cases c)]; exact c⟩
theorem sqT_off {f a : Addr} {od : Obj} {xs ys : List V} (hf : H f = some (.frz od (.lst ys))) (h : SqT K H a xs) : SqT K (hide H f) a xs := by
  rcases h with (h | ⟨ob, h⟩) | h
  · exact .inl (.inl (by rw [hide_ne (fun e => by rw [e, hf] at h; cases h)]; exact h))
  · exact .inl (.inr ⟨ob, by rw [hide_ne (fun e => by rw [e, hf] at h; cases h)]; exact h⟩)
  · exact .inr h
theorem fq_off {v : V} {r : Rw} {f : Addr} {od : Obj} {ys : List V} (hf : H f = some (.frz od (.lst ys))) (h : Fq K H v r) : Fq K (hide H f) v r :=
  let ⟨p, a, b⟩ := h
  ⟨p, a, sqT_off hf b⟩
theorem eq4_off {v : V} {e : Ev} {f : Addr} {od : Obj} {ys : List V} (hf : H f = some (.frz od (.lst ys))) (h : Eq4 K H v e) : Eq4 K (hide H f) v e :=
  let ⟨p, q, a, b, c⟩ := h
  ⟨p, q, a, sqT_off hf b, fq_off hf c⟩
/-- the study does not know the list that is locked -/
theorem St.off {f : Addr} {od : Obj} {ys : List V} (hf : H f = some (.frz od (.lst ys))) (S : St K C H L m) : St K C (hide H f) L m := by
  have go : ∀ {b : Addr} {xs : List V}, H b = some (.lst xs) → hide H f b = some (.lst xs) := fun {b xs} h => by
    rw [hide_ne (fun e => by rw [e, hf] at h; cases h)]
    exact h
  refine ⟨?_, S.evF, ?_, go S.po, ?_, ?_, go S.tw, ?_, S.nd⟩
  · have h := S.at_
    rw [hide_ne (fun e => by rw [e, hf] at h; cases h)]
    exact h
  · obtain ⟨xs, a, b⟩ := S.ev
    exact ⟨xs, go a, b.imp fun _ _ q => eq4_off hf q⟩
  · exact S.ps.imp fun p P ⟨xs, a, b⟩ => ⟨xs, go a, b.imp fun _ _ q => q.off hf⟩
  · obtain ⟨xs, a, b⟩ := S.mo
    exact ⟨xs, go a, b.imp fun _ _ ⟨p, ys, x, y, z, t⟩ => ⟨p, ys, x, y, go z, t.imp fun _ _ q => fq_off hf q⟩⟩
  · obtain ⟨xs, a, b⟩ := S.tr
    exact ⟨xs, go a, b.imp fun _ _ q => q.off hf⟩
end
theorem Hide.upd {H : Hp} {f : Addr} {o : HO} : hide (L2.upd H f o) f = hide H f := by
  funext b
  unfold hide L2.upd
  by_cases h : b = f
  · rw [if_pos h, if_pos h]
  · rw [if_neg h, if_neg h, if_neg h]
theorem same_hide_upd {H : Hp} {f : Addr} {o : HO} : Same (hide H f) (L2.upd H f o) := fun b u e => by
  unfold hide at e
  unfold L2.upd
  by_cases h : b = f
  · rw [if_pos h] at e
    cases e
  · rw [if_neg h] at e ⊢
    exact e
/-- the answers so far -/
def stepC (s : Option M × List Int) (c : Cl) : Option M × List Int := ((onS s.1 c.n c.xs c.row).1, s.2 ++ (((onS s.1 c.n c.xs c.row).2.length : Int) :: (onS s.1 c.n c.xs c.row).2))
def runC (cs : List Cl) : Option M × List Int := cs.foldl stepC (none, [])
theorem st_make {C : Addr} {sp : Sp} {E : XK} {t : TA} {σ : L2.St} {H : Hp} {Q : VK} (q : t σ H fun vs H1 => ∀ x dx, H1 x = none → H1 dx = none → dx ≠ x → sp (.ref x :: (vs ++ [])) (L2.upd (L2.upd H1 dx (.own x)) x (.ins C dx [])) (fun v H2 => v = .non ∧ Q (.ref x) H2) E) : tMake C sp [] E t σ H Q := q
theorem st_lock {t : TE} {σ : L2.St} {H : Hp} {Q : VK} {d : Addr} {u : HO} (h : H d = some u) (mu : Mut (some u)) (q : ∀ od, t σ (L2.upd H d (.frz od u)) fun v H' => H' d = some (.frz od u) ∧ Q v (L2.upd H' d u)) : tLockE t σ H Q := ⟨d, u, h, mu, q⟩
section
variable {P : Program} {w : World} {K : PySem.W.Frag} {mg : Str → Option Value} {base : Heap} {az an aw d1 d2 d3 C : Addr}

def sp_created (K : PySem.W.Frag) (C : Addr) : Sp := fun vs H Q _ => ∃ (s : V) (p : Addr) (a b : Nat), vs = [s, .ref p] ∧ SqL K H p [.int (a : Int), .int (b : Int)] ∧
  (goodNew a b = false → ∀ t z H', Same H H' → SqT K H' t [s, .ref z] → H z = none → H' z = some (.lst [.int (-22)]) → Q (.ref t) H') ∧
  (goodNew a b = true → ∀ t z H' L', Same H H' → SqT K H' t [.ref L'.a, .ref z] → St K C H' L' (fresh a b) → (∀ b ∈ L'.F, H b = none) → H z = none → H' z = some (.lst [.int 0]) → Q (.ref t) H')
theorem dec_nat (a b : Nat) : decide ((a : Int) ≤ (b : Int)) = decide (a ≤ b) := decide_eq_decide.mpr (by omega)
abbrev s_created : Stmt := top 138
theorem sc_created : FnScope ["study", "numbers", "contexts", "actions"] ["study", "numbers"] (defScope s_created) := ⟨rfl, rfl, rfl, by decide +kernel, rfl, by decide +kernel, by decide +kernel⟩
theorem ok_created (T : Tx K mg az an aw d1 d2 d3 C) (h : Has K mg "created" s_created ["study", "numbers"]) (O_is_between : Ok P w K mg base "is_between" 1 ["number", "least", "most"] (sp_is_between K C)) (O_Study : OkI P w K mg base C 2 ["self", "contexts", "actions"] (sp___init__ K C)) :
    Ok P w K mg base "created" 4 ["study", "numbers"] (sp_created K C) := by
  refine ok_of h sc_created (fun vs H Q E h => ?_) (fun f cdv A outer s H vs Q E hr h => ⟨_, (pss_cons (ps_asg (pv 1) (pg_unlK (K := K) (n := 2) rfl rfl (pgs_cons (pg_name (i := 2) sc_created.nd rfl (Or.inl rfl)) (pgs_cons (pg_name (i := 3) sc_created.nd rfl (Or.inl rfl)) pgs_nil))))
      (pss_cons (ps_if (PW.pt (pw_or (pt_not (pt_val (pe_go O_is_between (hr.mono (by decide)) (by rfl) (pa_cons (pv 2) (pa_cons pe_int (pa_cons (pe_globI (by rfl) T.m_MOST_CONTEXTS) pa_nil)))))) (pw_or1 (pt_not (pt_val (pe_go O_is_between (hr.mono (by decide)) (by rfl) (pa_cons (pv 3) (pa_cons pe_int (pa_cons (pe_globI (by rfl) T.m_MOST_ACTIONS) pa_nil))))))))) (pss_one (ps_ret (pe_tup (pa_cons (pv 0) (pa_cons (pe_lst (pa_cons (pe_globI (by rfl) T.m_OUTSIDE) pa_nil)) pa_nil))))) pss_nil)
      (pss_one (ps_ret (pe_tup (pa_cons (pe_goI O_Study (hr.mono (by decide)) (by rfl) T.m_Study (pa_cons (pv 2) (pa_cons (pv 3) pa_nil))) (pa_cons (pe_lst (pa_cons pe_int pa_nil)) pa_nil))))))), ?_⟩)
  · first | (obtain ⟨_, rfl, _⟩ := h; rfl) | (obtain ⟨_, _, rfl, _⟩ := h; rfl) | (obtain ⟨_, _, _, rfl, _⟩ := h; rfl) | (obtain ⟨_, _, _, _, rfl, _⟩ := h; rfl) | (obtain ⟨_, _, _, _, _, rfl, _⟩ := h; rfl) | (obtain ⟨_, _, _, _, _, _, rfl, _⟩ := h; rfl) | (obtain ⟨_, _, _, _, _, _, _, rfl, _⟩ := h; rfl) | (obtain ⟨_, _, _, _, _, _, _, _, rfl, _⟩ := h; rfl) | (obtain ⟨_, _, _, _, _, _, _, _, _, rfl, _⟩ := h; rfl) | (obtain ⟨_, _, _, _, _, _, _, _, _, _, rfl, _⟩ := h; rfl) | (obtain ⟨_, _, _, _, _, _, _, _, _, _, _, rfl, _⟩ := h; rfl) | (obtain ⟨_, _, _, _, _, _, _, _, _, _, _, _, rfl, _⟩ := h; rfl) | (obtain ⟨_, _, _, _, _, _, _, _, _, _, _, _, _, rfl, _⟩ := h; rfl)

  · obtain ⟨s, p, a, b, rfl, hp, k0, k1⟩ := h
    repeat wtm_at "lwst"
    refine st_gunl hp rfl ?_
    repeat wtm_at "lwst"
    have ea : (decide ((1 : Int) ≤ (a : Int)) && decide ((a : Int) ≤ 6)) = (decide (1 ≤ a) && decide (a ≤ 6)) := by
      rw [show decide ((1 : Int) ≤ (a : Int)) = decide (1 ≤ a) from dec_nat 1 a, show decide ((a : Int) ≤ 6) = decide (a ≤ 6) from dec_nat a 6]
    have eb : (decide ((1 : Int) ≤ (b : Int)) && decide ((b : Int) ≤ 5)) = (decide (1 ≤ b) && decide (b ≤ 5)) := by
      rw [show decide ((1 : Int) ≤ (b : Int)) = decide (1 ≤ b) from dec_nat 1 b, show decide ((b : Int) ≤ 5) = decide (b ≤ 5) from dec_nat b 5]
    refine ⟨_, _, _, rfl, ?_⟩
    repeat wtm_at "lwst"
    rw [ea]
    refine cond_2 (fun c1 => ?_) (fun c1 => ?_)
    · rw [Bool.not_eq_true'] at c1
      refine cond_t rfl ?_
      repeat wtm_at "lwst"
      refine new_l (by simp) fun z H1 hz e1 h1 => ?_
      repeat wtm_at "lwst"
      refine new_t (K := K) (by simp) fun t H2 e2 ht => ?_
      exact k0 (by unfold goodNew; rw [c1]; rfl) t z H2 (e1.trans e2) ht hz (e2 _ _ h1)
    rw [Bool.not_eq_false'] at c1
    repeat wtm_at "lwst"
    refine ⟨_, _, _, rfl, ?_⟩
    repeat wtm_at "lwst"
    rw [eb]
    refine cond_2 (fun c2 => ?_) (fun c2 => ?_)
    · rw [Bool.not_eq_true'] at c2
      repeat wtm_at "lwst"
      refine new_l (by simp) fun z H1 hz e1 h1 => ?_
      repeat wtm_at "lwst"
      refine new_t (K := K) (by simp) fun t H2 e2 ht => ?_
      exact k0 (by unfold goodNew; rw [c1, c2]; rfl) t z H2 (e1.trans e2) ht hz (e2 _ _ h1)
    rw [Bool.not_eq_false'] at c2
    have good : goodNew a b = true := by unfold goodNew; rw [c1, c2]; rfl
    have n1 := of_decide_eq_true (Bool.and_eq_true _ _ ▸ c1 |>.1)
    have n2 := of_decide_eq_true (Bool.and_eq_true _ _ ▸ c1 |>.2)
    have n3 := of_decide_eq_true (Bool.and_eq_true _ _ ▸ c2 |>.1)
    have n4 := of_decide_eq_true (Bool.and_eq_true _ _ ▸ c2 |>.2)
    repeat wtm_at "lwst"
    refine st_make ?_
    repeat wtm_at "lwst"
    intro x dx hx hdx ne
    refine ⟨x, dx, a, b, rfl, n1, n2, n3, n4, upd_same, fun H1 L' ha S old nw => ?_⟩
    have e1 : Same H H1 := fun q o h => by
      have qx : q ≠ x := fun e => by rw [e, hx] at h; cases h
      have qd : q ≠ dx := fun e => by rw [e, hdx] at h; cases h
      exact old q o (by rw [upd_ne qx, upd_ne qd]; exact h) qx
    have nF : ∀ q ∈ L'.F, H q = none := fun q hq => by
      rcases nw q hq with h | h
      · rw [h]
        exact hx
      · by_cases qx : q = x
        · rw [qx]
          exact hx
        · by_cases qd : q = dx
          · rw [qd]
            exact hdx
          · rw [upd_ne qx, upd_ne qd] at h
            exact h
    refine ⟨rfl, ?_⟩
    repeat wtm_at "lwst"
    refine new_l (by simp) fun z H2 hz e2 h2 => ?_
    repeat wtm_at "lwst"
    refine new_t (K := K) (by simp) fun t H3 e3 ht => ?_
    exact k1 good t z H3 L' ((e1.trans e2).trans e3) (by rw [ha]; exact ht) (S.up (e2.trans e3)) nF (e1.free hz) (e3 _ _ h2)
def sp_answer_of (K : PySem.W.Frag) (C : Addr) : Sp := fun vs H Q E => ∃ (s : V) (n : Nat) (nv rv : V), vs = [s, .int (n : Int), nv, rv] ∧ 1 ≤ n ∧ n ≤ 28 ∧ ((s = .non ∧ RetA H Q [-11]) ∨ ((∃ a, s = .ref a) ∧ DeedR K C n [s, nv, rv] H Q E))
abbrev s_answer_of : Stmt := top 139
theorem sc_answer_of : FnScope ["study", "number", "numbers", "row"] ["study", "number", "numbers", "row"] (defScope s_answer_of) := ⟨rfl, rfl, rfl, by decide +kernel, rfl, by decide +kernel, by decide +kernel⟩
theorem ok_answer_of (T : Tx K mg az an aw d1 d2 d3 C) (h : Has K mg "answer_of" s_answer_of ["study", "number", "numbers", "row"]) (O_is_change : Ok P w K mg base "is_change" 1 ["number"] (sp_is_change K C)) (O_is_question : Ok P w K mg base "is_question" 1 ["number"] (sp_is_question K C)) (O_looked_at : Ok P w K mg base "looked_at" 9 ["number", "study", "numbers", "row"] (sp_looked_at K C)) (O_changed : Ok P w K mg base "changed" 9 ["number", "study", "numbers", "row"] (sp_changed K C)) (O_answered : Ok P w K mg base "answered" 9 ["number", "study", "numbers", "row"] (sp_answered K C)) :
    Ok P w K mg base "answer_of" 10 ["study", "number", "numbers", "row"] (sp_answer_of K C) := by
  refine ok_of h sc_answer_of (fun vs H Q E h => ?_) (fun f cdv A outer s H vs Q E hr h => ⟨_, (pss_cons (ps_if (pt_cmpR op_isN (pv 0) pe_non (nomark _)) (pss_one (ps_ret (pe_lst (pa_cons (pe_globI (by rfl) T.m_NO_STUDY) pa_nil)))) pss_nil)
      (pss_cons (ps_if (pt_val (pe_go O_is_change (hr.mono (by decide)) (by rfl) (pa_cons (pv 1) pa_nil))) (pss_one (ps_ret (pe_go O_changed (hr.mono (by decide)) (by rfl) (pa_cons (pv 1) (pa_cons (pv 0) (pa_cons (pv 2) (pa_cons (pv 3) pa_nil))))))) pss_nil)
      (pss_cons (ps_if (pt_val (pe_go O_is_question (hr.mono (by decide)) (by rfl) (pa_cons (pv 1) pa_nil))) (pss_one (ps_ret (pe_go O_answered (hr.mono (by decide)) (by rfl) (pa_cons (pv 1) (pa_cons (pv 0) (pa_cons (pv 2) (pa_cons (pv 3) pa_nil))))))) pss_nil)
      (pss_one (ps_ret (pe_go O_looked_at (hr.mono (by decide)) (by rfl) (pa_cons (pv 1) (pa_cons (pv 0) (pa_cons (pv 2) (pa_cons (pv 3) pa_nil)))))))))), ?_⟩)
  · first | (obtain ⟨_, rfl, _⟩ := h; rfl) | (obtain ⟨_, _, rfl, _⟩ := h; rfl) | (obtain ⟨_, _, _, rfl, _⟩ := h; rfl) | (obtain ⟨_, _, _, _, rfl, _⟩ := h; rfl) | (obtain ⟨_, _, _, _, _, rfl, _⟩ := h; rfl) | (obtain ⟨_, _, _, _, _, _, rfl, _⟩ := h; rfl) | (obtain ⟨_, _, _, _, _, _, _, rfl, _⟩ := h; rfl) | (obtain ⟨_, _, _, _, _, _, _, _, rfl, _⟩ := h; rfl) | (obtain ⟨_, _, _, _, _, _, _, _, _, rfl, _⟩ := h; rfl) | (obtain ⟨_, _, _, _, _, _, _, _, _, _, rfl, _⟩ := h; rfl) | (obtain ⟨_, _, _, _, _, _, _, _, _, _, _, rfl, _⟩ := h; rfl) | (obtain ⟨_, _, _, _, _, _, _, _, _, _, _, _, rfl, _⟩ := h; rfl) | (obtain ⟨_, _, _, _, _, _, _, _, _, _, _, _, _, rfl, _⟩ := h; rfl)

  · obtain ⟨s, n, nv, rv, rfl, n1, n28, h⟩ := h
    repeat wtm_at "lwst"
    refine ⟨rfl, ?_⟩
    repeat wtm_at "lwst"
    rcases h with ⟨rfl, kA⟩ | ⟨⟨a, rfl⟩, hd⟩
    · refine cond_t (decide_eq_true rfl) ?_
      repeat wtm_at "lwst"
      exact ret_one kA
    · refine cond_f (decide_eq_false fun z => by cases z) ?_
      repeat wtm_at "lwst"
      refine ⟨n, rfl, n28, ?_⟩
      repeat wtm_at "lwst"
      refine cond_2 (fun c1 => ?_) (fun c1 => ?_)
      · repeat wtm_at "lwst"
        exact ⟨n, _, _, _, rfl, c1, hd⟩
      repeat wtm_at "lwst"
      refine ⟨n, rfl, n28, ?_⟩
      repeat wtm_at "lwst"
      refine cond_2 (fun c2 => ?_) (fun c2 => ?_)
      · repeat wtm_at "lwst"
        exact ⟨n, _, _, _, rfl, c2, hd⟩
      repeat wtm_at "lwst"
      refine ⟨n, _, _, _, rfl, ?_, hd⟩
      unfold isN_is_change at c1
      unfold isN_is_question at c2
      unfold isN_looked_at
      simp at c1 c2 ⊢
      omega
theorem runC_take {cs : List Cl} {i : Nat} {c : Cl} (h : cs[i]? = some c) : runC (cs.take (i + 1)) = stepC (runC (cs.take i)) c := by
  unfold runC
  rw [List.take_succ, h, List.foldl_append]
  rfl
theorem stepC_len {s : Option M × List Int} {c : Cl} (hs : ∀ m, s.1 = some m → Wf m) (ok : Okc c.n c.xs c.row) : (stepC s c).2.length ≤ s.2.length + 1001 := by
  have h : (onS s.1 c.n c.xs c.row).2.length ≤ 1000 := by
    unfold onS
    split
    · split
      · unfold oCreate
        split <;> simp
      · simp
    · split
      · simp
      · rename_i m hm
        exact ans_len (hs m hm) ok
  unfold stepC
  simp
  omega
/-- the study as the loop has it -/
def Sv (K : PySem.W.Frag) (C : Addr) (Hr H : Hp) (s : V) (st : Option M) : Prop := (s = .non ∧ st = none) ∨ ∃ L m, s = .ref L.a ∧ st = some m ∧ St K C H L m ∧ Wf m ∧ ∀ b ∈ L.F, Hr b = none
theorem Sv.up {K : PySem.W.Frag} {C : Addr} {Hr H H' : Hp} {s : V} {st : Option M} (e : Same H H') (h : Sv K C Hr H s st) : Sv K C Hr H' s st := by
  rcases h with h | ⟨L, m, a, b, c, d⟩
  · exact .inl h
  · exact .inr ⟨L, m, a, b, c.up e, d⟩
def sp_answers (K : PySem.W.Frag) (C : Addr) : Sp := fun vs H Q _ => ∃ (a : Addr) (cs : List Cl), vs = [.ref a] ∧ SqL K H a ((nz (cs.flatMap Cl.flat)).map V.int) ∧ (∀ c ∈ cs, OkC c) ∧ cs.length ≤ 60 ∧
  ∀ p H', Same H H' → H' p = some (.lst ((runC cs).2.map V.int)) → Q (.ref p) H'
abbrev s_answers : Stmt := top 140
theorem sc_answers : FnScope ["calls", "study", "found", "number", "numbers", "row", "answer"] ["calls"] (defScope s_answers) := ⟨rfl, rfl, rfl, by decide +kernel, rfl, by decide +kernel, by decide +kernel⟩
theorem ok_answers {fa : Addr} {fd : FuncData} (T : Tx K mg az an aw d1 d2 d3 C) (F : Fun K "answers" "answers" s_answers fa fd) (O_read_calls : Ok P w K mg base "read_calls" 3 ["calls"] (sp_read_calls K C)) (O_created : Ok P w K mg base "created" 4 ["study", "numbers"] (sp_created K C)) (O_answer_of : Ok P w K mg base "answer_of" 10 ["study", "number", "numbers", "row"] (sp_answer_of K C)) :
    FnOk P w K mg base CX0 11 fa fd ["calls"] (sp_answers K C) := by
  refine F.ok sc_answers (fun vs H Q E h => ?_) (fun cdv A outer s H vs Q E hr h => ⟨_, (pss_cons (ps_par (i := 1) (j := 2) (by rfl) sc_answers.nd rfl rfl (by decide) rfl rfl (pa_cons pe_non (pa_cons (pe_lst pa_nil) pa_nil)) (by rfl))
      (pss_cons (ps_for PassesOwn.never rfl (pi_list (pe_go O_read_calls (hr.mono (by decide)) (by rfl) (pa_cons (pv 0) pa_nil))) (pg_tupK (K := K) (n := 3) rfl rfl (pgs_cons (pg_name (i := 3) sc_answers.nd rfl (Or.inl rfl)) (pgs_cons (pg_name (i := 4) sc_answers.nd rfl (Or.inl rfl)) (pgs_cons (pg_name (i := 5) sc_answers.nd rfl (Or.inl rfl)) pgs_nil)))) (pss_cons (ps_if (pt_cmpR op_eq (pv 3) (pe_globI (by rfl) T.m_CREATE) (nomark _)) (pss_one (ps_asg (pe_lock (pe_go O_created (hr.mono (by decide)) (by rfl) (pa_cons (pv 1) (pa_cons (pv 4) pa_nil)))) (pg_tupK (K := K) (n := 2) rfl rfl (pgs_cons (pg_name (i := 1) sc_answers.nd rfl (Or.inl rfl)) (pgs_cons (pg_name (i := 6) sc_answers.nd rfl (Or.inl rfl)) pgs_nil))))) (pss_one (ps_set (i := 6) sc_answers.nd rfl (Or.inl rfl) (pe_lock (pe_go O_answer_of (hr.mono (by decide)) (by rfl) (pa_cons (pv 1) (pa_cons (pv 3) (pa_cons (pv 4) (pa_cons (pv 5) pa_nil)))))))))
      (pss_cons (ps_expr (pe_bm PySem.F.plainAttrs_list PySem.F.slot_list_append PySem.F.type_list_append mt_append (pv 2) (pa_cons (pe_callB (cb_lenK (K := K) rfl) (by rfl) T.b_len PySem.boot_len (pa_cons (pv 6) pa_nil)) pa_nil)))
      (pss_one (ps_expr (pe_bm PySem.F.plainAttrs_list PySem.F.slot_list_extend PySem.F.type_list_extend mt_extend (pv 2) (pa_cons (pv 6) pa_nil)))))))
      (pss_one (ps_ret (pv 2))))), ?_⟩)
  · first | (obtain ⟨_, _, rfl, _⟩ := h; rfl)

  · obtain ⟨a, cs, rfl, ha, ok, h60, k⟩ := h
    repeat wtm_at "lwst"
    refine new_l (by simp) fun f H1 hf e1 h1 => ?_
    repeat wtm_at "lwst"
    refine ⟨a, cs, rfl, sqL_up e1 ha, ok, h60, fun p ws Hr hp er hpr hws => ?_⟩
    repeat wtm_at "lwst"
    have hfr := er _ _ h1
    have pf : p ≠ f := born h1 hp
    refine go_forL (H0 := hide Hr f) same_hide (SqL.of (by rw [hide_ne pf]; exact hpr)) (fun i σ H2 => (∃ s o3 o4 o5 o6, σ = [some (.ref a), some s, some (.ref f), o3, o4, o5, o6] ∧ Sv K C Hr (hide H2 f) s (runC (cs.take i)).1) ∧ H2 f = some (.lst ((runC (cs.take i)).2.map V.int)) ∧ (runC (cs.take i)).2.length ≤ 1001 * i ∧ Same (hide Hr f) H2) ⟨⟨.non, none, none, none, none, rfl, .inl ⟨rfl, rfl⟩⟩, hfr, by simp [runC], same_hide⟩ ?_ ?_
    · rintro i x σ H2 hi _ ⟨⟨s, o3, o4, o5, o6, rfl, hs⟩, h2, hl, e2⟩
      obtain ⟨c, hc, t, xa, ra, rc⟩ := hws.get hi
      obtain rfl := rc.v
      have okc := ok c (List.mem_of_getElem? hc)
      have fx : xa ≠ f := born h1 rc.xN
      have fr : ra ≠ f := born h1 rc.rN
      have il : i < cs.length := (List.getElem?_eq_some_iff.mp hc).1
      have ht2 : SqT K H2 t [.int (c.n : Int), .ref xa, .ref ra] := sqT_up e2 (sqT_hide hfr rc.t)
      have hx2 : H2 xa = some (.lst ((nz c.xs).map V.int)) := e2 _ _ (by rw [hide_ne fx]; exact rc.x)
      have hr2 : H2 ra = some (.lst ((nz c.row).map V.int)) := e2 _ _ (by rw [hide_ne fr]; exact rc.r)
      have hSv : ∀ m, (runC (cs.take i)).1 = some m → Wf m := fun m hm => by
        rcases hs with ⟨_, h⟩ | ⟨L, m', _, h, _, W, _⟩
        · rw [h] at hm
          cases hm
        · rw [h] at hm
          cases hm
          exact W
      have hlen := stepC_len hSv okc.ok
      have e12 := runC_take hc
      have hR : ∀ b od', L2.upd H2 f od' b = none → Hr b = none := fun b od' h => by
        cases q : Hr b with
        | none => rfl
        | some u =>
          by_cases bf : b = f
          · rw [bf, upd_same] at h
            cases h
          · rw [upd_ne bf, e2 b u (by rw [hide_ne bf]; exact q)] at h
            cases h
      have al : (onS (runC (cs.take i)).1 c.n c.xs c.row).2.length ≤ 1000 := by
        unfold stepC at hlen
        rw [List.length_append, List.length_cons] at hlen
        omega
      repeat wtm_at "lwst"
      refine cond_2 (fun c0 => ?_) (fun c0 => ?_)
      · have n0 : c.n = 0 := by
          have := of_decide_eq_true c0
          injection this with h
          omega
        obtain ⟨n, xs, row⟩ := c
        have n0 : n = 0 := n0
        subst n0
        obtain ⟨a0, b0, h0⟩ := len2 okc.ok.len
        have h0 : xs = [a0, b0] := h0
        subst h0
        have al : (onS (runC (cs.take i)).1 0 [a0, b0] row).2.length ≤ 1000 := al
        repeat wtm_at "lwst"
        refine st_lock h2 trivial fun od => ?_
        repeat wtm_at "lwst"
        have hxf := (upd_ne (o := .frz od (.lst ((runC (cs.take i)).2.map V.int))) fx).trans hx2
        have keep : ∀ {H'}, Same (L2.upd H2 f (.frz od (.lst ((runC (cs.take i)).2.map V.int)))) H' → ∀ o', (∀ b o, hide H2 f b = some o → hide (L2.upd H' f o') f b = some o) ∧ Same (hide Hr f) (L2.upd H' f o') := fun {H'} e o' => ⟨fun b o h => by
            have bf : b ≠ f := fun z => by rw [z, hide_at] at h; cases h
            rw [hide_ne bf] at h
            rw [hide_ne bf, upd_ne bf]
            exact e b o (by rw [upd_ne bf]; exact h), fun b o h => by
            have bf : b ≠ f := fun z => by rw [z, hide_at] at h; cases h
            rw [upd_ne bf]
            exact e b o (by rw [upd_ne bf]; exact e2 b o h)⟩
        refine ⟨s, xa, a0, b0, rfl, SqL.of hxf, fun hb t' z H' e ht hz hz' => ?_, fun hb t' z H' L' e ht S nF hz hz' => ?_⟩
        · have hf' := e f _ upd_same
          refine ⟨hf', ?_⟩
          have eo : onS (runC (cs.take i)).1 0 [a0, b0] row = ((runC (cs.take i)).1, [-22]) := by
            show oCreate _ a0 b0 = _
            unfold oCreate
            rw [if_neg (by unfold goodNew at hb; rw [hb]; simp)]
          have zf : z ≠ f := born (upd_same (H := H2)) hz
          have hzf := upd_same (H := H') (a := f) (o := .lst ((runC (cs.take i)).2.map V.int))
          have hzz := (upd_ne (o := .lst ((runC (cs.take i)).2.map V.int)) zf).trans hz'
          have ht3 := sqT_up same_hide_upd (sqT_off hf' ht) (H' := L2.upd H' f (.lst ((runC (cs.take i)).2.map V.int)))
          have hsm := (keep e (.lst ((runC (cs.take i)).2.map V.int))).2
          have hsv : Sv K C Hr (hide (L2.upd H' f (.lst ((runC (cs.take i)).2.map V.int))) f) s (stepC (runC (cs.take i)) ⟨0, [a0, b0], row⟩).1 := by
            unfold stepC
            rw [eo]
            exact hs.up (keep e _).1
          have hzz : L2.upd H' f (.lst ((runC (cs.take i)).2.map V.int)) z = some (.lst ((onS (runC (cs.take i)).1 0 [a0, b0] row).2.map V.int)) := by rw [eo]; exact hzz
          repeat wtm_at "lwst"
          refine bm_list (SqL.of hzf) ?_
          repeat wtm_at "lwst"
          refine st_len (SqL.of hzz) ?_
          repeat wtm_at "lwst"
          refine st_append hzf (by rw [List.length_map]; omega) ?_
          repeat wtm_at "lwst"
          refine bm_list (SqL.of upd_same) ?_
          repeat wtm_at "lwst"
          refine st_extend upd_same (by rw [upd_ne zf]; exact hzz) (by rw [List.length_append, List.length_map, List.length_map]; simp only [List.length_cons, List.length_nil]; omega) ?_
          repeat wtm_at "lwst"
          refine ⟨fun b o e => ?_, ⟨_, _, _, _, _, rfl, ?_⟩, ?_, by rw [e12]; omega, fun b o e => ?_⟩
          · have bf : b ≠ f := fun z => by rw [z, hide_at] at e; cases e
            rw [upd_ne bf, upd_ne bf]
            exact hsm b o e
          · rw [Hide.upd, Hide.upd, e12]
            exact hsv
          · rw [e12, upd_same]
            unfold stepC
            rw [List.map_append, List.map_cons, List.length_map, List.append_assoc]
            rfl
          · have bf : b ≠ f := fun z => by rw [z, hide_at] at e; cases e
            rw [upd_ne bf, upd_ne bf]
            exact hsm b o e
        · have hf' := e f _ upd_same
          refine ⟨hf', ?_⟩
          have eo : onS (runC (cs.take i)).1 0 [a0, b0] row = (some (fresh a0 b0), [0]) := by
            show oCreate _ a0 b0 = _
            unfold oCreate
            rw [if_pos (by unfold goodNew at hb; exact hb)]
          have zf : z ≠ f := born (upd_same (H := H2)) hz
          have hzf := upd_same (H := H') (a := f) (o := .lst ((runC (cs.take i)).2.map V.int))
          have hzz := (upd_ne (o := .lst ((runC (cs.take i)).2.map V.int)) zf).trans hz'
          have ht3 := sqT_up same_hide_upd (sqT_off hf' ht) (H' := L2.upd H' f (.lst ((runC (cs.take i)).2.map V.int)))
          have hsm := (keep e (.lst ((runC (cs.take i)).2.map V.int))).2
          have hb' := hb
          unfold goodNew at hb'
          rw [Bool.and_eq_true, Bool.and_eq_true, Bool.and_eq_true] at hb'
          have hsv : Sv K C Hr (hide (L2.upd H' f (.lst ((runC (cs.take i)).2.map V.int))) f) (.ref L'.a) (stepC (runC (cs.take i)) ⟨0, [a0, b0], row⟩).1 := by
            unfold stepC
            rw [eo, Hide.upd]
            exact .inr ⟨L', _, rfl, rfl, S.off hf', wf_fresh (of_decide_eq_true hb'.1.1) (of_decide_eq_true hb'.1.2) (of_decide_eq_true hb'.2.1) (of_decide_eq_true hb'.2.2), fun b hb => hR b _ (nF b hb)⟩
          have hzz : L2.upd H' f (.lst ((runC (cs.take i)).2.map V.int)) z = some (.lst ((onS (runC (cs.take i)).1 0 [a0, b0] row).2.map V.int)) := by rw [eo]; exact hzz
          repeat wtm_at "lwst"
          refine bm_list (SqL.of hzf) ?_
          repeat wtm_at "lwst"
          refine st_len (SqL.of hzz) ?_
          repeat wtm_at "lwst"
          refine st_append hzf (by rw [List.length_map]; omega) ?_
          repeat wtm_at "lwst"
          refine bm_list (SqL.of upd_same) ?_
          repeat wtm_at "lwst"
          refine st_extend upd_same (by rw [upd_ne zf]; exact hzz) (by rw [List.length_append, List.length_map, List.length_map]; simp only [List.length_cons, List.length_nil]; omega) ?_
          repeat wtm_at "lwst"
          refine ⟨fun b o e => ?_, ⟨_, _, _, _, _, rfl, ?_⟩, ?_, by rw [e12]; omega, fun b o e => ?_⟩
          · have bf : b ≠ f := fun z => by rw [z, hide_at] at e; cases e
            rw [upd_ne bf, upd_ne bf]
            exact hsm b o e
          · rw [Hide.upd, Hide.upd, e12]
            exact hsv
          · rw [e12, upd_same]
            unfold stepC
            rw [List.map_append, List.map_cons, List.length_map, List.append_assoc]
            rfl
          · have bf : b ≠ f := fun z => by rw [z, hide_at] at e; cases e
            rw [upd_ne bf, upd_ne bf]
            exact hsm b o e
      · have n0 : c.n ≠ 0 := fun z => by
          rw [z] at c0
          exact absurd c0 (by decide)
        repeat wtm_at "lwst"
        refine st_lock h2 trivial fun od => ?_
        repeat wtm_at "lwst"
        refine ⟨s, c.n, _, _, rfl, by omega, okc.n28, ?_⟩
        rcases hs with ⟨rfl, hn⟩ | ⟨L, m, rfl, hm, S, W, nF⟩
        · refine .inl ⟨rfl, fun z H' hz e hz' => ⟨e f _ upd_same, ?_⟩⟩
          have eo : onS (runC (cs.take i)).1 c.n c.xs c.row = (none, [-11]) := by
            unfold onS
            rw [if_neg n0, hn]
          have zf : z ≠ f := born (upd_same (H := H2)) hz
          have hzf := upd_same (H := H') (a := f) (o := .lst ((runC (cs.take i)).2.map V.int))
          have hzz : L2.upd H' f (.lst ((runC (cs.take i)).2.map V.int)) z = some (.lst ((onS (runC (cs.take i)).1 c.n c.xs c.row).2.map V.int)) := by
            rw [eo, upd_ne zf]
            exact hz'
          have hsm : Same (hide Hr f) (L2.upd H' f (.lst ((runC (cs.take i)).2.map V.int))) := fun b o h => by
            have bf : b ≠ f := fun z => by rw [z, hide_at] at h; cases h
            rw [upd_ne bf]
            exact e b o (by rw [upd_ne bf]; exact e2 b o h)
          have hsv : Sv K C Hr (hide (L2.upd H' f (.lst ((runC (cs.take i)).2.map V.int))) f) .non (stepC (runC (cs.take i)) c).1 := by
            unfold stepC
            rw [eo]
            exact .inl ⟨rfl, rfl⟩
          repeat wtm_at "lwst"
          refine bm_list (SqL.of hzf) ?_
          repeat wtm_at "lwst"
          refine st_len (SqL.of hzz) ?_
          repeat wtm_at "lwst"
          refine st_append hzf (by rw [List.length_map]; omega) ?_
          repeat wtm_at "lwst"
          refine bm_list (SqL.of upd_same) ?_
          repeat wtm_at "lwst"
          refine st_extend upd_same (by rw [upd_ne zf]; exact hzz) (by rw [List.length_append, List.length_map, List.length_map]; simp only [List.length_cons, List.length_nil]; omega) ?_
          repeat wtm_at "lwst"
          refine ⟨fun b o e => ?_, ⟨_, _, _, _, _, rfl, ?_⟩, ?_, by rw [e12]; omega, fun b o e => ?_⟩
          · have bf : b ≠ f := fun z => by rw [z, hide_at] at e; cases e
            rw [upd_ne bf, upd_ne bf]
            exact hsm b o e
          · rw [Hide.upd, Hide.upd, e12]
            exact hsv
          · rw [e12, upd_same]
            unfold stepC
            rw [List.map_append, List.map_cons, List.length_map, List.append_assoc]
            rfl
          · have bf : b ≠ f := fun z => by rw [z, hide_at] at e; cases e
            rw [upd_ne bf, upd_ne bf]
            exact hsm b o e
        · have fF : f ∉ L.F := fun h => by
            have := nF f h
            rw [hfr] at this
            cases this
          have rF : ra ∉ L.F := fun h => by
            have := nF ra h
            rw [rc.r] at this
            cases this
          have hxf := (upd_ne (o := .frz od (.lst ((runC (cs.take i)).2.map V.int))) fx).trans hx2
          have hrf := (upd_ne (o := .frz od (.lst ((runC (cs.take i)).2.map V.int))) fr).trans hr2
          refine .inr ⟨⟨_, rfl⟩, L, m, _, ra, c.xs, c.row, rfl, S.up same_hide_upd, W, ⟨xa, rfl, SqL.of hxf⟩, SqL.of hrf, rF, okc.ok, fun z H' L' kp S' W' hz hz' => ?_⟩
          have hf' := kp.old f _ upd_same fF
          refine ⟨hf', ?_⟩
          have eo : onS (runC (cs.take i)).1 c.n c.xs c.row = (some (onM m c.n c.xs c.row).1, (onM m c.n c.xs c.row).2) := by
            unfold onS
            rw [if_neg n0, hm]
          have zf : z ≠ f := born (upd_same (H := H2)) hz
          have hzf := upd_same (H := H') (a := f) (o := .lst ((runC (cs.take i)).2.map V.int))
          have hzz : L2.upd H' f (.lst ((runC (cs.take i)).2.map V.int)) z = some (.lst ((onS (runC (cs.take i)).1 c.n c.xs c.row).2.map V.int)) := by
            rw [eo, upd_ne zf]
            exact hz'
          have hsm : Same (hide Hr f) (L2.upd H' f (.lst ((runC (cs.take i)).2.map V.int))) := fun b o h => by
            have bf : b ≠ f := fun z => by rw [z, hide_at] at h; cases h
            rw [upd_ne bf]
            refine kp.old b o (by rw [upd_ne bf]; exact e2 b o h) fun hF => ?_
            rw [hide_ne bf, nF b hF] at h
            cases h
          have hsv : Sv K C Hr (hide (L2.upd H' f (.lst ((runC (cs.take i)).2.map V.int))) f) (.ref L.a) (stepC (runC (cs.take i)) c).1 := by
            unfold stepC
            rw [eo, Hide.upd]
            refine .inr ⟨L', _, by rw [kp.a], rfl, S'.off hf', W', fun b hb => ?_⟩
            rcases kp.new b hb with h | h
            · exact nF b h
            · exact hR b _ h
          repeat wtm_at "lwst"
          refine bm_list (SqL.of hzf) ?_
          repeat wtm_at "lwst"
          refine st_len (SqL.of hzz) ?_
          repeat wtm_at "lwst"
          refine st_append hzf (by rw [List.length_map]; omega) ?_
          repeat wtm_at "lwst"
          refine bm_list (SqL.of upd_same) ?_
          repeat wtm_at "lwst"
          refine st_extend upd_same (by rw [upd_ne zf]; exact hzz) (by rw [List.length_append, List.length_map, List.length_map]; simp only [List.length_cons, List.length_nil]; omega) ?_
          repeat wtm_at "lwst"
          refine ⟨fun b o e => ?_, ⟨_, _, _, _, _, rfl, ?_⟩, ?_, by rw [e12]; omega, fun b o e => ?_⟩
          · have bf : b ≠ f := fun z => by rw [z, hide_at] at e; cases e
            rw [upd_ne bf, upd_ne bf]
            exact hsm b o e
          · rw [Hide.upd, Hide.upd, e12]
            exact hsv
          · rw [e12, upd_same]
            unfold stepC
            rw [List.map_append, List.map_cons, List.length_map, List.append_assoc]
            rfl
          · have bf : b ≠ f := fun z => by rw [z, hide_at] at e; cases e
            rw [upd_ne bf, upd_ne bf]
            exact hsm b o e
    · rintro σ H2 _ ⟨⟨s, o3, o4, o5, o6, rfl, hs⟩, h2, hl, e2⟩
      rw [hws.len, List.take_length] at h2
      repeat wtm_at "lwst"
      refine k f H2 (fun b o h => ?_) h2
      have bf : b ≠ f := fun z => by rw [z, hf] at h; cases h
      exact e2 b o (by rw [hide_ne bf]; exact er _ _ (e1 _ _ h))
end
end Lw

namespace Lw
open PySem PySem.Spec PyProof.Rows L2
local macro_rules | `(tactic| wtm_at "lwsame") => `(tactic| first
  | assumption | exact Same.refl _ | (refine Same.trans (by assumption) ?_; wtm_at "lwsame"))
local macro_rules | `(tactic| wtm_at "lwup") => `(tactic| first
  | assumption
  | ((with_reducible show SqT _ _ _ _); first | (refine sqT_up ?_ (by assumption); wtm_at "lwsame") | (refine KT.sq ?_ _; assumption) | (refine SqT.of ?_; wtm_at "lwup"))
  | ((with_reducible show SqL _ _ _ _); first | (refine sqL_up ?_ (by assumption); wtm_at "lwsame") | (refine SqL.of ?_; wtm_at "lwup"))
  | ((with_reducible show _ = some _); refine (show Same _ _ by wtm_at "lwsame") _ _ (by assumption))
  | ((with_reducible show Fq _ _ _ _); refine Fq.up ?_ (by assumption); wtm_at "lwsame")
  | ((with_reducible show Fs _ _ _ _); refine Fs.up ?_ (by assumption); wtm_at "lwsame")
  | ((with_reducible show Is _ _ _ _); refine Is.up ?_ (by assumption); wtm_at "lwsame")
  | ((with_reducible show Ns _ _ _ _); refine Ns.up ?_ (by assumption); wtm_at "lwsame")
  | ((with_reducible show Eq4 _ _ _ _); refine Eq4.up ?_ (by assumption); wtm_at "lwsame")
  | ((with_reducible show Evs _ _ _ _); refine Evs.up ?_ (by assumption); wtm_at "lwsame"))
local macro_rules | `(tactic| wtm_at "lwst2") => `(tactic| first
  | (with_reducible refine st_drop ?_)
  | (with_reducible refine st_par ?_)
  | (with_reducible refine st_par2 ?_)
  | (with_reducible refine st_un ?_)
  | (with_reducible refine st_rU ?_)
  | (with_reducible refine st_B ?_)
  | (with_reducible refine st_not ?_)
  | (with_reducible refine st_and ?_)
  | (with_reducible refine st_or ?_)
  | (with_reducible refine st_andV ?_)
  | (with_reducible refine st_orV ?_)
  | (with_reducible refine st_isB2 ?_)
  | (with_reducible refine st_ifE ?_)
  | (with_reducible refine st_yes ?_)
  | (with_reducible refine st_forL ?_)
  | (with_reducible refine st_forR ?_)
  | (with_reducible refine st_lcL ?_)
  | (with_reducible refine st_lcR ?_)
  | (with_reducible refine st_lcZ ?_)
  | (with_reducible refine st_bm ?_)
  | (with_reducible refine st_sfld ?_)
  | (with_reducible refine st_gsub ?_)
  | (with_reducible refine st_meth ?_)
  | (with_reducible refine st_sl ?_)
  | (with_reducible refine st_nopart ?_)
  | (with_reducible refine st_part ?_)
  | (with_reducible refine st_isI ?_)
  | (with_reducible refine st_rev ?_)
  | (with_reducible refine st_ckw ?_)
  | (with_reducible refine st_abs ?_)
  | ((with_reducible refine st_eq ?hh ?_); (case hh => exact rfl))
  | ((with_reducible refine st_ne ?hh ?_); (case hh => exact rfl))
  | ((with_reducible refine st_ixT (v := ?vv) (xs := ?xx) ?hh ?hi ?_); (case hh => wtm_at "lwup"); (case hi => exact rfl))
  | ((with_reducible refine st_gtup (xs := ?xx) ?hh ?hi ?_); (case hh => wtm_at "lwup"); (case hi => exact rfl)))
local macro_rules | `(tactic| wtm_at "lwst") => `(tactic| first
  | (with_reducible refine st_cons ?_)
  | ((with_reducible refine st_var (v := ?vv) ?hh ?_); (case hh => exact rfl))
  | (with_reducible refine st_nil ?_)
  | (with_reducible refine st_call ?_)
  | (with_reducible refine st_gname ?_)
  | (with_reducible refine st_c ?_)
  | (with_reducible refine st_seq ?_)
  | (with_reducible refine st_op ?_)
  | (with_reducible refine st_ret ?_)
  | (with_reducible refine st_lst ?_)
  | (with_reducible refine st_gcons ?_)
  | (with_reducible refine st_asg ?_)
  | (with_reducible refine st_isB ?_)
  | (with_reducible refine st_ifS ?_)
  | (with_reducible refine st_nx0 ?_)
  | (with_reducible refine st_test ?_)
  | (with_reducible refine st_fld ?_)
  | (with_reducible refine st_nx ?_)
  | (with_reducible refine st_rI0 ?_)
  | (with_reducible refine st_callB ?_)
  | (with_reducible refine st_gnil ?_)
  | (with_reducible refine st_tup ?_)
  | wtm_at "lwst2")

/-! ## All defs keep their promises -/
def SOf (K : PySem.W.Frag) (C : Addr) (ents : List (Int × Addr)) : Addr → Option Sp := fun a => (ents.find? fun p => p.2 == a).map fun p => DeedR K C p.1.toNat
section
variable {P : Program} {w : World} {K : PySem.W.Frag} {mg : Str → Option Value} {base : Heap} {az an aw d1 d2 d3 C : Addr}

theorem held_of {x : Str} {k k' : Nat} {ps : List Str} {n : Nat} {a : Addr} (O : Ok P w K mg base x k ps (Deed K C n)) (hm : mg x = some (.ref a)) (hk : k ≤ k') : Held P w K mg base k' a (DeedR K C n) := by
  obtain ⟨f, fd, h1, h2, h3, F⟩ := O
  rw [hm] at h1
  cases h1
  exact ⟨fd, ps, (F.mono hk).imp (fun _ _ _ _ h => DeedR.deed h), h2, h3⟩
theorem heldR {x : Str} {k k' : Nat} {ps : List Str} {n : Nat} {a : Addr} (O : Ok P w K mg base x k ps (DeedR K C n)) (hm : mg x = some (.ref a)) (hk : k ≤ k') : Held P w K mg base k' a (DeedR K C n) := by
  obtain ⟨f, fd, h1, h2, h3, F⟩ := O
  rw [hm] at h1
  cases h1
  exact ⟨fd, ps, F.mono hk, h2, h3⟩
theorem held_all {k : Nat} {ents : List (Int × Addr)} (h : ∀ p ∈ ents, Held P w K mg base k p.2 (DeedR K C p.1.toNat)) : ∀ a sp, SOf K C ents a = some sp → Held P w K mg base k a sp := by
  intro a sp e
  unfold SOf at e
  obtain ⟨p, hp, rfl⟩ := Option.map_eq_some_iff.mp e
  have ha := List.find?_some hp
  rw [beq_iff_eq] at ha
  rw [← ha]
  exact h p (List.mem_of_find?_eq_some hp)
end
theorem ent_some (ents : List (Int × Addr)) (i : Int) : (entOf ents i).isSome = (ents.map (·.1)).contains i := by
  unfold entOf
  rw [Option.isSome_map]
  induction ents with
  | nil => rfl
  | cons p r ih =>
    rw [List.find?_cons, List.map_cons, List.contains_cons]
    by_cases h : p.1 = i
    · rw [h]
      simp
    · rw [show (p.1 == i) = false from beq_eq_false_iff_ne.mpr h, show (i == p.1) = false from beq_eq_false_iff_ne.mpr (Ne.symm h), Bool.false_or]
      exact ih
theorem ent_is {ents : List (Int × Addr)} {ns : List Int} {isN : Nat → Bool} (hn : ents.map (·.1) = ns) (h : ∀ n ≤ 28, ns.contains ((n : Nat) : Int) = isN n) : ∀ n : Nat, n ≤ 28 → (entOf ents n).isSome = isN n := fun n h28 => by
  rw [ent_some, hn]
  exact h n h28
theorem find_addr : ∀ {ents : List (Int × Addr)} {p : Int × Addr}, (ents.map (·.2)).Nodup → p ∈ ents → ents.find? (fun q => q.2 == p.2) = some p := by
  intro ents p nd hp
  induction ents with
  | nil => cases hp
  | cons q r ih =>
    rw [List.map_cons, List.nodup_cons] at nd
    rw [List.find?_cons]
    rcases List.mem_cons.mp hp with rfl | h
    · rw [beq_self_eq_true]
    · rw [show (q.2 == p.2) = false from beq_eq_false_iff_ne.mpr fun z => nd.1 (by rw [z]; exact List.mem_map_of_mem h)]
      exact ih nd.2 h
/-- the table's numbers are these, and each address stands once -/
theorem ent_hit {K : PySem.W.Frag} {C : Addr} {ents : List (Int × Addr)} {as : List Addr} {ns : List Int} {isN : Nat → Bool} {n : Nat} (nd : as.Nodup) (ha : ents.map (·.2) = as) (hn : ents.map (·.1) = ns) (hN : ∀ n, isN n = true → n ≤ 28 ∧ ns.contains ((n : Nat) : Int) = true) (h : isN n = true) :
    ∃ a, entOf ents n = some a ∧ SOf K C ents a = some (DeedR K C n) := by
  have hs := ent_some ents ((n : Nat) : Int)
  rw [hn, (hN n h).2] at hs
  unfold entOf at hs ⊢
  rw [Option.isSome_map, Option.isSome_iff_exists] at hs
  obtain ⟨p, hp⟩ := hs
  refine ⟨p.2, by rw [hp]; rfl, ?_⟩
  have h1 := List.find?_some hp
  rw [beq_iff_eq] at h1
  unfold SOf
  rw [find_addr (by rw [ha]; exact nd) (List.mem_of_find?_eq_some hp), Option.map_some, h1, Int.toNat_natCast]
theorem num_changed : ∀ n, isN_changed n = true → n ≤ 28 ∧ ([1, 2, 3, 4, 5, 6, 7, 8] : List Int).contains ((n : Nat) : Int) = true := fun n h => by
  have hn : n ≤ 28 := by
    unfold isN_changed isN_is_change at h
    simp at h
    omega
  exact ⟨hn, (show ∀ n ≤ 28, isN_changed n = true → ([1, 2, 3, 4, 5, 6, 7, 8] : List Int).contains ((n : Nat) : Int) = true by decide) n hn h⟩
theorem num_answered : ∀ n, isN_answered n = true → n ≤ 28 ∧ ([9, 10, 11, 12, 13, 14, 15, 16, 17, 18, 19, 23, 28] : List Int).contains ((n : Nat) : Int) = true := fun n h => by
  have hn : n ≤ 28 := by
    unfold isN_answered isN_is_question at h
    simp at h
    omega
  exact ⟨hn, (show ∀ n ≤ 28, isN_answered n = true → ([9, 10, 11, 12, 13, 14, 15, 16, 17, 18, 19, 23, 28] : List Int).contains ((n : Nat) : Int) = true by decide) n hn h⟩
theorem num_looked_at : ∀ n, isN_looked_at n = true → n ≤ 28 ∧ ([20, 21, 22, 24, 25, 26, 27] : List Int).contains ((n : Nat) : Int) = true := fun n h => by
  have hn : n ≤ 28 := by
    unfold isN_looked_at at h
    simp at h
    omega
  exact ⟨hn, (show ∀ n ≤ 28, isN_looked_at n = true → ([20, 21, 22, 24, 25, 26, 27] : List Int).contains ((n : Nat) : Int) = true by decide) n hn h⟩
section
variable {P : Program} {w : World} {K : PySem.W.Frag} {mg : Str → Option Value} {base : Heap} {az an aw d1 d2 d3 C : Addr}

theorem has_of {h : Heap} {x : Str} {st : Stmt} {ps : List Str} (X : K.In h) (G : h.Ns mainGlobals mg)
    (l : ∃ (f : Addr) (oc : Value) (od an : Option Addr) (sl : Array (Option Value)) (kV dc pm cd ct : Value), PySem.W.nsIn K mainGlobals x = some (some (.ref f)) ∧ K.lookup f = some ⟨oc, od, .func (PySem.W.fnOf x x (defArgs st) (defBody st) (defScope st) .none kV dc pm an cd ct), sl⟩ ∧ PySem.W.codeIn K cd x = true ∧ PySem.W.keepIn K (.ref f) = true)
    (b : ∀ {f : Addr} (fd : FuncData), Fun K x x st f fd → Binds K fd ps []) : Has K mg x st ps := by
  obtain ⟨f, oc, od, an, sl, kV, dc, pm, cd, ct, h1, h2, h3, h4⟩ := l
  have F := fun_mk (st := st) h2 h3 h4
  exact ⟨f, _, PySem.W.mg_of X G h1, F, b _ F⟩
theorem hasM_of {x q : Str} {st : Stmt} {ps : List Str}
    (l : ∃ (f : Addr) (oc : Value) (od an : Option Addr) (sl : Array (Option Value)) (kV dc pm cd ct : Value), PySem.W.findIn K (.ref C) x = some (some (.ref f)) ∧ PySem.W.isFn K (.ref f) = true ∧ K.lookup f = some ⟨oc, od, .func (PySem.W.fnOf x q (defArgs st) (defBody st) (defScope st) .none kV dc pm an cd ct), sl⟩ ∧ PySem.W.codeIn K cd q = true ∧ PySem.W.keepIn K (.ref f) = true)
    (b : ∀ {f : Addr} (fd : FuncData), Fun K x q st f fd → Binds K fd ps []) : HasM K C x st ps := by
  obtain ⟨f, oc, od, an, sl, kV, dc, pm, cd, ct, h1, hi, h2, h3, h4⟩ := l
  have F := fun_mk (st := st) h2 h3 h4
  exact ⟨f, _, q, F, b _ F, h1, hi⟩
theorem fun_end {h : Heap} {fa : Addr} (X : K.In h) (G : h.Ns mainGlobals mg) (hm : mg "answers" = some (.ref fa))
    (l : ∃ (f : Addr) (oc : Value) (od an : Option Addr) (sl : Array (Option Value)) (kV dc pm cd ct : Value), PySem.W.nsIn K mainGlobals "answers" = some (some (.ref f)) ∧ K.lookup f = some ⟨oc, od, .func (PySem.W.fnOf "answers" "answers" (defArgs s_answers) (defBody s_answers) (defScope s_answers) .none kV dc pm an cd ct), sl⟩ ∧ PySem.W.codeIn K cd "answers" = true ∧ PySem.W.keepIn K (.ref f) = true) :
    ∃ fd : FuncData, Fun K "answers" "answers" s_answers fa fd ∧ ∀ (s : Shared) (us : List Value), us.length = (["calls"] : List Str).length → BindsTo s fd ⟨us, []⟩ ((["calls"] : List Str).zip us) := by
  obtain ⟨f, oc, od, an, sl, kV, dc, pm, cd, ct, h1, h2, h3, h4⟩ := l
  have F := fun_mk (st := s_answers) h2 h3 h4
  have e := hm.symm.trans (PySem.W.mg_of X G h1)
  cases e
  exact ⟨_, F, fun s us hu => match us, hu with | [_], _ => .of_eq rfl⟩
theorem all_ok (T : Tx K mg az an aw d1 d2 d3 C) (g_common_divisor : Has K mg "common_divisor" s_common_divisor ["one", "other"])
(g_quotient : Has K mg "quotient" s_quotient ["above", "below"])
(g_whole : Has K mg "whole" s_whole ["number"])
(g_plus : Has K mg "plus" s_plus ["one", "other"])
(g_minus : Has K mg "minus" s_minus ["one", "other"])
(g_times : Has K mg "times" s_times ["one", "other"])
(g_over : Has K mg "over" s_over ["one", "other"])
(g_square : Has K mg "square" s_square ["one"])
(g_is_less : Has K mg "is_less" s_is_less ["one", "other"])
(g_smaller : Has K mg "smaller" s_smaller ["one", "other"])
(g_total : Has K mg "total" s_total ["quotients"])
(g_mean : Has K mg "mean" s_mean ["quotients"])
(g_greatest : Has K mg "greatest" s_greatest ["quotients"])
(g_common_below : Has K mg "common_below" s_common_below ["quotients"])
(g_numbers_of : Has K mg "numbers_of" s_numbers_of ["quotients"])
(g_is_between : Has K mg "is_between" s_is_between ["number", "least", "most"])
(g_are_between : Has K mg "are_between" s_are_between ["numbers", "least", "most"])
(g_is_policy : Has K mg "is_policy" s_is_policy ["policy"])
(g_is_propensity : Has K mg "is_propensity" s_is_propensity ["above", "below"])
(g_are_weights : Has K mg "are_weights" s_are_weights ["weights", "actions"])
(g_are_rewards : Has K mg "are_rewards" s_are_rewards ["rewards", "actions"])
(g_is_estimator : Has K mg "is_estimator" s_is_estimator ["kind", "limit"])
(g_is_ranked : Has K mg "is_ranked" s_is_ranked ["row", "least_ranks", "most_number"])
(g_equal_rows : Has K mg "equal_rows" s_equal_rows ["many", "row"])
(g___init__ : HasM K C "__init__" s___init__ ["self", "contexts", "actions"] ∧ PySem.W.makesIn K C = true ∧ PySem.W.keepIn K (.ref C) = true)
(g_has_context : HasM K C "has_context" s_has_context ["self", "context"])
(g_has_action : HasM K C "has_action" s_has_action ["self", "action"])
(g_note_event : HasM K C "note_event" s_note_event ["self", "event"])
(g_forget_last : HasM K C "forget_last" s_forget_last ["self"])
(g_put_weights : HasM K C "put_weights" s_put_weights ["self", "policy", "context", "weights"])
(g_copy_policy : HasM K C "copy_policy" s_copy_policy ["self", "source", "target"])
(g_put_model : HasM K C "put_model" s_put_model ["self", "context", "estimates"])
(g_put_truth : HasM K C "put_truth" s_put_truth ["self", "context", "weight", "rewards"])
(g_probability : Has K mg "probability" s_probability ["study", "policy", "context", "action"])
(g_preferred : Has K mg "preferred" s_preferred ["study", "policy", "context"])
(g_importance : Has K mg "importance" s_importance ["study", "policy", "event"])
(g_importances : Has K mg "importances" s_importances ["study", "policy"])
(g_direct_value : Has K mg "direct_value" s_direct_value ["study", "policy", "context"])
(g_term : Has K mg "term" s_term ["study", "policy", "kind", "limit", "event"])
(g_terms : Has K mg "terms" s_terms ["study", "policy", "kind", "limit"])
(g_variance_of_mean : Has K mg "variance_of_mean" s_variance_of_mean ["values"])
(g_normalized_parts : Has K mg "normalized_parts" s_normalized_parts ["study", "policy"])
(g_effective_parts : Has K mg "effective_parts" s_effective_parts ["study", "policy"])
(g_rewards_of : Has K mg "rewards_of" s_rewards_of ["study", "context", "action"])
(g_rewards_of_action : Has K mg "rewards_of_action" s_rewards_of_action ["study", "action"])
(g_fitted : Has K mg "fitted" s_fitted ["study", "context", "action"])
(g_fitted_row : Has K mg "fitted_row" s_fitted_row ["study", "context"])
(g_context_probability : Has K mg "context_probability" s_context_probability ["study", "context"])
(g_expected_reward : Has K mg "expected_reward" s_expected_reward ["study", "policy", "context"])
(g_true_value_of : Has K mg "true_value_of" s_true_value_of ["study", "policy"])
(g_possible_events : Has K mg "possible_events" s_possible_events ["study", "logging"])
(g_moments : Has K mg "moments" s_moments ["study", "logging", "policy", "kind", "limit"])
(g_unsupported_pairs : Has K mg "unsupported_pairs" s_unsupported_pairs ["study", "logging", "policy"])
(g_next_seed : Has K mg "next_seed" s_next_seed ["seed"])
(g_resampled_sum : Has K mg "resampled_sum" s_resampled_sum ["numbers", "seed"])
(g_resampled_sums : Has K mg "resampled_sums" s_resampled_sums ["numbers", "rounds", "seed"])
(g_resampled_estimates : Has K mg "resampled_estimates" s_resampled_estimates ["values", "rounds", "seed"])
(g_is_place : Has K mg "is_place" s_is_place ["study", "context", "action"])
(g_add_event : Has K mg "add_event" s_add_event ["study", "numbers", "row"])
(g_remove_last : Has K mg "remove_last" s_remove_last ["study", "numbers", "row"])
(g_log_event : Has K mg "log_event" s_log_event ["study", "numbers", "row"])
(g_set_policy : Has K mg "set_policy" s_set_policy ["study", "numbers", "row"])
(g_set_copy : Has K mg "set_copy" s_set_copy ["study", "numbers", "row"])
(g_set_model : Has K mg "set_model" s_set_model ["study", "numbers", "row"])
(g_fit_model : Has K mg "fit_model" s_fit_model ["study", "numbers", "row"])
(g_set_truth : Has K mg "set_truth" s_set_truth ["study", "numbers", "row"])
(g_is_change : Has K mg "is_change" s_is_change ["number"])
(g_changed : Has K mg "changed" s_changed ["number", "study", "numbers", "row"])
(g_precision_at : Has K mg "precision_at" s_precision_at ["relevance", "many"])
(g_average_precision : Has K mg "average_precision" s_average_precision ["relevance"])
(g_reciprocal_rank : Has K mg "reciprocal_rank" s_reciprocal_rank ["relevance"])
(g_discounted_gain : Has K mg "discounted_gain" s_discounted_gain ["gains"])
(g_ideal_gain : Has K mg "ideal_gain" s_ideal_gain ["gains"])
(g_rising_pairs : Has K mg "rising_pairs" s_rising_pairs ["numbers"])
(g_falling_pairs : Has K mg "falling_pairs" s_falling_pairs ["numbers"])
(g_pairs_of : Has K mg "pairs_of" s_pairs_of ["many"])
(g_true_value : Has K mg "true_value" s_true_value ["study", "numbers", "row"])
(g_expectation : Has K mg "expectation" s_expectation ["study", "numbers", "row"])
(g_unsupported : Has K mg "unsupported" s_unsupported ["study", "numbers", "row"])
(g_precision : Has K mg "precision" s_precision ["study", "numbers", "row"])
(g_rank_measures : Has K mg "rank_measures" s_rank_measures ["study", "numbers", "row"])
(g_gains_measured : Has K mg "gains_measured" s_gains_measured ["study", "numbers", "row"])
(g_order_measure : Has K mg "order_measure" s_order_measure ["study", "numbers", "row"])
(g_looked_at : Has K mg "looked_at" s_looked_at ["number", "study", "numbers", "row"])
(g_code_of : Has K mg "code_of" s_code_of ["study", "policies", "kind", "limit", "least_events"])
(g_propensity_asked : Has K mg "propensity_asked" s_propensity_asked ["study", "numbers", "row"])
(g_estimate : Has K mg "estimate" s_estimate ["study", "numbers", "row"])
(g_normalized : Has K mg "normalized" s_normalized ["study", "numbers", "row"])
(g_replay : Has K mg "replay" s_replay ["study", "numbers", "row"])
(g_effective_size : Has K mg "effective_size" s_effective_size ["study", "numbers", "row"])
(g_variance : Has K mg "variance" s_variance ["study", "numbers", "row"])
(g_interval : Has K mg "interval" s_interval ["study", "numbers", "row"])
(g_compare : Has K mg "compare" s_compare ["study", "numbers", "row"])
(g_by_context : Has K mg "by_context" s_by_context ["study", "numbers", "row"])
(g_greatest_weight : Has K mg "greatest_weight" s_greatest_weight ["study", "numbers", "row"])
(g_model_info : Has K mg "model_info" s_model_info ["study", "numbers", "row"])
(g_bootstrap : Has K mg "bootstrap" s_bootstrap ["study", "numbers", "row"])
(g_status : Has K mg "status" s_status ["study", "numbers", "row"])
(g_is_question : Has K mg "is_question" s_is_question ["number"])
(g_answered : Has K mg "answered" s_answered ["number", "study", "numbers", "row"])
(g_read_row : Has K mg "read_row" s_read_row ["calls", "number", "at"])
(g_read_call : Has K mg "read_call" s_read_call ["calls", "at"])
(g_read_calls : Has K mg "read_calls" s_read_calls ["calls"])
(g_created : Has K mg "created" s_created ["study", "numbers"])
(g_answer_of : Has K mg "answer_of" s_answer_of ["study", "number", "numbers", "row"])
{fa : Addr} {fd : FuncData} (g_answers : Fun K "answers" "answers" s_answers fa fd)
{a_add_event : Addr} (m_add_event : mg "add_event" = some (.ref a_add_event))
{a_remove_last : Addr} (m_remove_last : mg "remove_last" = some (.ref a_remove_last))
{a_log_event : Addr} (m_log_event : mg "log_event" = some (.ref a_log_event))
{a_set_policy : Addr} (m_set_policy : mg "set_policy" = some (.ref a_set_policy))
{a_set_copy : Addr} (m_set_copy : mg "set_copy" = some (.ref a_set_copy))
{a_set_model : Addr} (m_set_model : mg "set_model" = some (.ref a_set_model))
{a_fit_model : Addr} (m_fit_model : mg "fit_model" = some (.ref a_fit_model))
{a_set_truth : Addr} (m_set_truth : mg "set_truth" = some (.ref a_set_truth))
(D_d1 : KD K d1 [(1, a_add_event), (2, a_remove_last), (3, a_log_event), (4, a_set_policy), (5, a_set_copy), (6, a_set_model), (7, a_fit_model), (8, a_set_truth)]) (nd_d1 : ([a_add_event, a_remove_last, a_log_event, a_set_policy, a_set_copy, a_set_model, a_fit_model, a_set_truth] : List Addr).Nodup)
{a_propensity_asked : Addr} (m_propensity_asked : mg "propensity_asked" = some (.ref a_propensity_asked))
{a_estimate : Addr} (m_estimate : mg "estimate" = some (.ref a_estimate))
{a_normalized : Addr} (m_normalized : mg "normalized" = some (.ref a_normalized))
{a_replay : Addr} (m_replay : mg "replay" = some (.ref a_replay))
{a_effective_size : Addr} (m_effective_size : mg "effective_size" = some (.ref a_effective_size))
{a_variance : Addr} (m_variance : mg "variance" = some (.ref a_variance))
{a_interval : Addr} (m_interval : mg "interval" = some (.ref a_interval))
{a_compare : Addr} (m_compare : mg "compare" = some (.ref a_compare))
{a_by_context : Addr} (m_by_context : mg "by_context" = some (.ref a_by_context))
{a_greatest_weight : Addr} (m_greatest_weight : mg "greatest_weight" = some (.ref a_greatest_weight))
{a_model_info : Addr} (m_model_info : mg "model_info" = some (.ref a_model_info))
{a_bootstrap : Addr} (m_bootstrap : mg "bootstrap" = some (.ref a_bootstrap))
{a_status : Addr} (m_status : mg "status" = some (.ref a_status))
(D_d2 : KD K d2 [(9, a_propensity_asked), (10, a_estimate), (11, a_normalized), (12, a_replay), (13, a_effective_size), (14, a_variance), (15, a_interval), (16, a_compare), (17, a_by_context), (18, a_greatest_weight), (19, a_model_info), (23, a_bootstrap), (28, a_status)]) (nd_d2 : ([a_propensity_asked, a_estimate, a_normalized, a_replay, a_effective_size, a_variance, a_interval, a_compare, a_by_context, a_greatest_weight, a_model_info, a_bootstrap, a_status] : List Addr).Nodup)
{a_true_value : Addr} (m_true_value : mg "true_value" = some (.ref a_true_value))
{a_expectation : Addr} (m_expectation : mg "expectation" = some (.ref a_expectation))
{a_unsupported : Addr} (m_unsupported : mg "unsupported" = some (.ref a_unsupported))
{a_precision : Addr} (m_precision : mg "precision" = some (.ref a_precision))
{a_rank_measures : Addr} (m_rank_measures : mg "rank_measures" = some (.ref a_rank_measures))
{a_gains_measured : Addr} (m_gains_measured : mg "gains_measured" = some (.ref a_gains_measured))
{a_order_measure : Addr} (m_order_measure : mg "order_measure" = some (.ref a_order_measure))
(D_d3 : KD K d3 [(20, a_true_value), (21, a_expectation), (22, a_unsupported), (24, a_precision), (25, a_rank_measures), (26, a_gains_measured), (27, a_order_measure)]) (nd_d3 : ([a_true_value, a_expectation, a_unsupported, a_precision, a_rank_measures, a_gains_measured, a_order_measure] : List Addr).Nodup) :
    FnOk P w K mg base CX0 11 fa fd ["calls"] (sp_answers K 0) := by
  have O_common_divisor := ok_common_divisor (P := P) (w := w) (base := base) T g_common_divisor
  have O_quotient := ok_quotient (P := P) (w := w) (base := base) T g_quotient O_common_divisor
  have O_whole := ok_whole (P := P) (w := w) (base := base) T g_whole
  have O_plus := ok_plus (P := P) (w := w) (base := base) T g_plus O_quotient
  have O_minus := ok_minus (P := P) (w := w) (base := base) T g_minus O_quotient
  have O_times := ok_times (P := P) (w := w) (base := base) T g_times O_quotient
  have O_over := ok_over (P := P) (w := w) (base := base) T g_over O_quotient
  have O_square := ok_square (P := P) (w := w) (base := base) T g_square O_times
  have O_is_less := ok_is_less (P := P) (w := w) (base := base) T g_is_less
  have O_smaller := ok_smaller (P := P) (w := w) (base := base) T g_smaller O_is_less
  have O_total := ok_total (P := P) (w := w) (base := base) T g_total O_plus
  have O_mean := ok_mean (P := P) (w := w) (base := base) T g_mean O_over O_total O_whole
  have O_greatest := ok_greatest (P := P) (w := w) (base := base) T g_greatest O_is_less
  have O_common_below := ok_common_below (P := P) (w := w) (base := base) T g_common_below O_common_divisor
  have O_numbers_of := ok_numbers_of (P := P) (w := w) (base := base) T g_numbers_of
  have O_is_between := ok_is_between (P := P) (w := w) (base := base) T g_is_between
  have O_are_between := ok_are_between (P := P) (w := w) (base := base) T g_are_between O_is_between
  have O_is_policy := ok_is_policy (P := P) (w := w) (base := base) T g_is_policy O_is_between
  have O_is_propensity := ok_is_propensity (P := P) (w := w) (base := base) T g_is_propensity
  have O_are_weights := ok_are_weights (P := P) (w := w) (base := base) T g_are_weights O_are_between
  have O_are_rewards := ok_are_rewards (P := P) (w := w) (base := base) T g_are_rewards O_are_between
  have O_is_estimator := ok_is_estimator (P := P) (w := w) (base := base) T g_is_estimator O_is_between
  have O_is_ranked := ok_is_ranked (P := P) (w := w) (base := base) T g_is_ranked O_is_between O_are_between
  have O_equal_rows := ok_equal_rows (P := P) (w := w) (base := base) T g_equal_rows
  have O___init__ := ok___init__ (P := P) (w := w) (base := base) T g___init__ O_equal_rows
  have O_has_context := ok_has_context (P := P) (w := w) (base := base) T g_has_context
  have O_has_action := ok_has_action (P := P) (w := w) (base := base) T g_has_action
  have O_note_event := ok_note_event (P := P) (w := w) (base := base) T g_note_event
  have O_forget_last := ok_forget_last (P := P) (w := w) (base := base) T g_forget_last
  have O_put_weights := ok_put_weights (P := P) (w := w) (base := base) T g_put_weights
  have O_copy_policy := ok_copy_policy (P := P) (w := w) (base := base) T g_copy_policy
  have O_put_model := ok_put_model (P := P) (w := w) (base := base) T g_put_model
  have O_put_truth := ok_put_truth (P := P) (w := w) (base := base) T g_put_truth
  have O_probability := ok_probability (P := P) (w := w) (base := base) T g_probability O_quotient
  have O_preferred := ok_preferred (P := P) (w := w) (base := base) T g_preferred
  have O_importance := ok_importance (P := P) (w := w) (base := base) T g_importance O_over O_probability
  have O_importances := ok_importances (P := P) (w := w) (base := base) T g_importances O_importance
  have O_direct_value := ok_direct_value (P := P) (w := w) (base := base) T g_direct_value O_total O_times O_probability
  have O_term := ok_term (P := P) (w := w) (base := base) T g_term O_importance O_minus O_plus O_direct_value O_times O_whole O_smaller O_quotient
  have O_terms := ok_terms (P := P) (w := w) (base := base) T g_terms O_term
  have O_variance_of_mean := ok_variance_of_mean (P := P) (w := w) (base := base) T g_variance_of_mean O_over O_mean O_square O_total O_whole O_minus
  have O_normalized_parts := ok_normalized_parts (P := P) (w := w) (base := base) T g_normalized_parts O_times O_total O_importance O_whole O_importances
  have O_effective_parts := ok_effective_parts (P := P) (w := w) (base := base) T g_effective_parts O_importances O_square O_total
  have O_rewards_of := ok_rewards_of (P := P) (w := w) (base := base) T g_rewards_of O_whole
  have O_rewards_of_action := ok_rewards_of_action (P := P) (w := w) (base := base) T g_rewards_of_action O_whole
  have O_fitted := ok_fitted (P := P) (w := w) (base := base) T g_fitted O_rewards_of O_rewards_of_action O_mean O_whole
  have O_fitted_row := ok_fitted_row (P := P) (w := w) (base := base) T g_fitted_row O_fitted
  have O_context_probability := ok_context_probability (P := P) (w := w) (base := base) T g_context_probability O_quotient
  have O_expected_reward := ok_expected_reward (P := P) (w := w) (base := base) T g_expected_reward O_total O_whole O_times O_probability
  have O_true_value_of := ok_true_value_of (P := P) (w := w) (base := base) T g_true_value_of O_total O_times O_context_probability O_expected_reward
  have O_possible_events := ok_possible_events (P := P) (w := w) (base := base) T g_possible_events O_probability O_times O_context_probability
  have O_moments := ok_moments (P := P) (w := w) (base := base) T g_moments O_possible_events O_total O_times O_term O_square O_minus
  have O_unsupported_pairs := ok_unsupported_pairs (P := P) (w := w) (base := base) T g_unsupported_pairs O_probability
  have O_next_seed := ok_next_seed (P := P) (w := w) (base := base) T g_next_seed
  have O_resampled_sum := ok_resampled_sum (P := P) (w := w) (base := base) T g_resampled_sum O_next_seed
  have O_resampled_sums := ok_resampled_sums (P := P) (w := w) (base := base) T g_resampled_sums O_resampled_sum
  have O_resampled_estimates := ok_resampled_estimates (P := P) (w := w) (base := base) T g_resampled_estimates O_common_below O_resampled_sums O_quotient
  have O_is_place := ok_is_place (P := P) (w := w) (base := base) T g_is_place O_has_context O_has_action
  have O_add_event := ok_add_event (P := P) (w := w) (base := base) T g_add_event O_is_place O_is_propensity O_quotient O_note_event
  have O_remove_last := ok_remove_last (P := P) (w := w) (base := base) T g_remove_last O_forget_last
  have O_log_event := ok_log_event (P := P) (w := w) (base := base) T g_log_event O_probability O_is_policy O_is_place O_note_event
  have O_set_policy := ok_set_policy (P := P) (w := w) (base := base) T g_set_policy O_are_weights O_is_policy O_put_weights O_has_context
  have O_set_copy := ok_set_copy (P := P) (w := w) (base := base) T g_set_copy O_is_policy O_copy_policy
  have O_set_model := ok_set_model (P := P) (w := w) (base := base) T g_set_model O_are_rewards O_whole O_put_model O_has_context
  have O_fit_model := ok_fit_model (P := P) (w := w) (base := base) T g_fit_model O_fitted_row O_put_model
  have O_set_truth := ok_set_truth (P := P) (w := w) (base := base) T g_set_truth O_is_between O_are_rewards O_put_truth O_has_context
  have O_is_change := ok_is_change (P := P) (w := w) (base := base) T g_is_change D_d1 (ent_is (isN := isN_is_change) (ns := [1, 2, 3, 4, 5, 6, 7, 8]) rfl (by decide))
  have O_changed := ok_changed (P := P) (w := w) (base := base) T g_changed D_d1 (fun n hn => ent_hit (isN := isN_changed) nd_d1 rfl rfl num_changed hn) (held_all (List.forall_mem_cons.mpr ⟨held_of (n := 1) O_add_event m_add_event (by decide), List.forall_mem_cons.mpr ⟨held_of (n := 2) O_remove_last m_remove_last (by decide), List.forall_mem_cons.mpr ⟨held_of (n := 3) O_log_event m_log_event (by decide), List.forall_mem_cons.mpr ⟨heldR (n := 4) O_set_policy m_set_policy (by decide), List.forall_mem_cons.mpr ⟨held_of (n := 5) O_set_copy m_set_copy (by decide), List.forall_mem_cons.mpr ⟨held_of (n := 6) O_set_model m_set_model (by decide), List.forall_mem_cons.mpr ⟨held_of (n := 7) O_fit_model m_fit_model (by decide), List.forall_mem_cons.mpr ⟨heldR (n := 8) O_set_truth m_set_truth (by decide), List.forall_mem_nil _⟩⟩⟩⟩⟩⟩⟩⟩))
  have O_precision_at := ok_precision_at (P := P) (w := w) (base := base) T g_precision_at O_quotient
  have O_average_precision := ok_average_precision (P := P) (w := w) (base := base) T g_average_precision O_mean O_precision_at
  have O_reciprocal_rank := ok_reciprocal_rank (P := P) (w := w) (base := base) T g_reciprocal_rank
  have O_discounted_gain := ok_discounted_gain (P := P) (w := w) (base := base) T g_discounted_gain O_total O_quotient
  have O_ideal_gain := ok_ideal_gain (P := P) (w := w) (base := base) T g_ideal_gain O_discounted_gain
  have O_rising_pairs := ok_rising_pairs (P := P) (w := w) (base := base) T g_rising_pairs
  have O_falling_pairs := ok_falling_pairs (P := P) (w := w) (base := base) T g_falling_pairs O_rising_pairs
  have O_pairs_of := ok_pairs_of (P := P) (w := w) (base := base) T g_pairs_of
  have O_true_value := ok_true_value (P := P) (w := w) (base := base) T g_true_value O_is_policy O_numbers_of O_true_value_of
  have O_expectation := ok_expectation (P := P) (w := w) (base := base) T g_expectation O_moments O_is_estimator O_numbers_of O_is_policy
  have O_unsupported := ok_unsupported (P := P) (w := w) (base := base) T g_unsupported O_unsupported_pairs O_is_policy
  have O_precision := ok_precision (P := P) (w := w) (base := base) T g_precision O_numbers_of O_is_between O_is_ranked O_precision_at
  have O_rank_measures := ok_rank_measures (P := P) (w := w) (base := base) T g_rank_measures O_is_ranked O_numbers_of O_average_precision O_reciprocal_rank
  have O_gains_measured := ok_gains_measured (P := P) (w := w) (base := base) T g_gains_measured O_discounted_gain O_is_ranked O_numbers_of O_over O_ideal_gain
  have O_order_measure := ok_order_measure (P := P) (w := w) (base := base) T g_order_measure O_is_ranked O_rising_pairs O_falling_pairs O_numbers_of O_quotient O_pairs_of
  have O_looked_at := ok_looked_at (P := P) (w := w) (base := base) T g_looked_at D_d3 (fun n hn => ent_hit (isN := isN_looked_at) nd_d3 rfl rfl num_looked_at hn) (held_all (List.forall_mem_cons.mpr ⟨held_of (n := 20) O_true_value m_true_value (by decide), List.forall_mem_cons.mpr ⟨held_of (n := 21) O_expectation m_expectation (by decide), List.forall_mem_cons.mpr ⟨held_of (n := 22) O_unsupported m_unsupported (by decide), List.forall_mem_cons.mpr ⟨held_of (n := 24) O_precision m_precision (by decide), List.forall_mem_cons.mpr ⟨held_of (n := 25) O_rank_measures m_rank_measures (by decide), List.forall_mem_cons.mpr ⟨held_of (n := 26) O_gains_measured m_gains_measured (by decide), List.forall_mem_cons.mpr ⟨held_of (n := 27) O_order_measure m_order_measure (by decide), List.forall_mem_nil _⟩⟩⟩⟩⟩⟩⟩))
  have O_code_of := ok_code_of (P := P) (w := w) (base := base) T g_code_of O_is_estimator O_is_policy
  have O_propensity_asked := ok_propensity_asked (P := P) (w := w) (base := base) T g_propensity_asked O_numbers_of O_is_policy O_probability O_has_context O_has_action
  have O_estimate := ok_estimate (P := P) (w := w) (base := base) T g_estimate O_code_of O_numbers_of O_mean O_terms
  have O_normalized := ok_normalized (P := P) (w := w) (base := base) T g_normalized O_normalized_parts O_is_policy O_numbers_of O_over
  have O_replay := ok_replay (P := P) (w := w) (base := base) T g_replay O_is_policy O_numbers_of O_preferred O_whole O_mean
  have O_effective_size := ok_effective_size (P := P) (w := w) (base := base) T g_effective_size O_effective_parts O_is_policy O_numbers_of O_over
  have O_variance := ok_variance (P := P) (w := w) (base := base) T g_variance O_code_of O_numbers_of O_variance_of_mean O_terms
  have O_interval := ok_interval (P := P) (w := w) (base := base) T g_interval O_code_of O_terms O_is_between O_numbers_of O_mean O_times O_whole O_variance_of_mean
  have O_compare := ok_compare (P := P) (w := w) (base := base) T g_compare O_code_of O_terms O_minus O_numbers_of O_mean O_variance_of_mean
  have O_by_context := ok_by_context (P := P) (w := w) (base := base) T g_by_context O_code_of O_terms O_numbers_of O_mean
  have O_greatest_weight := ok_greatest_weight (P := P) (w := w) (base := base) T g_greatest_weight O_is_policy O_numbers_of O_greatest O_importances
  have O_model_info := ok_model_info (P := P) (w := w) (base := base) T g_model_info O_numbers_of O_has_context
  have O_bootstrap := ok_bootstrap (P := P) (w := w) (base := base) T g_bootstrap O_code_of O_is_between O_numbers_of O_resampled_estimates O_terms
  have O_status := ok_status (P := P) (w := w) (base := base) T g_status
  have O_is_question := ok_is_question (P := P) (w := w) (base := base) T g_is_question D_d2 (ent_is (isN := isN_is_question) (ns := [9, 10, 11, 12, 13, 14, 15, 16, 17, 18, 19, 23, 28]) rfl (by decide))
  have O_answered := ok_answered (P := P) (w := w) (base := base) T g_answered D_d2 (fun n hn => ent_hit (isN := isN_answered) nd_d2 rfl rfl num_answered hn) (held_all (List.forall_mem_cons.mpr ⟨held_of (n := 9) O_propensity_asked m_propensity_asked (by decide), List.forall_mem_cons.mpr ⟨held_of (n := 10) O_estimate m_estimate (by decide), List.forall_mem_cons.mpr ⟨held_of (n := 11) O_normalized m_normalized (by decide), List.forall_mem_cons.mpr ⟨held_of (n := 12) O_replay m_replay (by decide), List.forall_mem_cons.mpr ⟨held_of (n := 13) O_effective_size m_effective_size (by decide), List.forall_mem_cons.mpr ⟨held_of (n := 14) O_variance m_variance (by decide), List.forall_mem_cons.mpr ⟨held_of (n := 15) O_interval m_interval (by decide), List.forall_mem_cons.mpr ⟨held_of (n := 16) O_compare m_compare (by decide), List.forall_mem_cons.mpr ⟨held_of (n := 17) O_by_context m_by_context (by decide), List.forall_mem_cons.mpr ⟨held_of (n := 18) O_greatest_weight m_greatest_weight (by decide), List.forall_mem_cons.mpr ⟨held_of (n := 19) O_model_info m_model_info (by decide), List.forall_mem_cons.mpr ⟨held_of (n := 23) O_bootstrap m_bootstrap (by decide), List.forall_mem_cons.mpr ⟨held_of (n := 28) O_status m_status (by decide), List.forall_mem_nil _⟩⟩⟩⟩⟩⟩⟩⟩⟩⟩⟩⟩⟩))
  have O_read_row := ok_read_row (P := P) (w := w) (base := base) T g_read_row
  have O_read_call := ok_read_call (P := P) (w := w) (base := base) T g_read_call O_read_row
  have O_read_calls := ok_read_calls (P := P) (w := w) (base := base) T g_read_calls O_read_call
  have O_created := ok_created (P := P) (w := w) (base := base) T g_created O_is_between O___init__
  have O_answer_of := ok_answer_of (P := P) (w := w) (base := base) T g_answer_of O_is_change O_is_question O_looked_at O_changed O_answered
  have O_answers := ok_answers (P := P) (w := w) (base := base) T g_answers O_read_calls O_created O_answer_of
  exact O_answers

end
end Lw

namespace Lw
/-! ## The plain law: what the mirror computes is what the document says -/
def evF (e : Ev) : Kp432.Event := ⟨e.c, e.a, e.r, F e.p⟩
def spm (m : M) : Kp432.Study := ⟨m.nc, m.na, m.ev.map evF, m.pol, m.mo.map (·.map F), m.tw, m.tr⟩
section
variable {m : M} {k c a kind limit : Nat} {e : Ev}
abbrev pa (m : M) (k : Nat) : Kp432.Policy := Kp432.policyAt (spm m) k
theorem chance_eq (W : Wf m) (hk : k < 3) (hc : c < m.nc) : Kp432.chance (pa m k) c a = F (chance m k c a) := fraction_F _ (wts_ok W hk hc).2.2
theorem getD_mapF (l : List Rat) (i : Nat) : (l.map F).getD i (Kp432.ofNat 0) = F (l.getD i 0) := by
  rw [List.getD_eq_getElem?_getD, List.getD_eq_getElem?_getD, List.getElem?_map]
  cases l[i]? <;> rfl
theorem getD_map2 (l : List (List Rat)) (i : Nat) : (l.map (·.map F)).getD i [] = (l.getD i []).map F := by
  rw [List.getD_eq_getElem?_getD, List.getD_eq_getElem?_getD, List.getElem?_map]
  cases l[i]? <;> rfl
theorem est_eq : Kp432.estimate (spm m) c a = F (est m c a) := by
  unfold Kp432.estimate Lw.est
  show ((m.mo.map (·.map F)).getD c []).getD a (Kp432.ofNat 0) = _
  rw [getD_map2, getD_mapF]
theorem weight_eq (W : Wf m) (hk : k < 3) (hc : e.c < m.nc) (hp : 0 < e.p) : Kp432.weight (pa m k) (evF e) = F (imp m k e) := by
  unfold Kp432.weight imp
  show Kp432.over (Kp432.chance (pa m k) e.c e.a) (F e.p) = _
  rw [chance_eq W hk hc, over_F _ _ hp]
theorem total_eq {α : Type} (l : List α) (f : α → Kp432.Fraction) (g : α → Rat) (h : ∀ x ∈ l, f x = F (g x)) : Kp432.total (l.map f) = F (l.map g).sum := by
  rw [← total_F, List.map_map]
  congr 1
  exact List.map_congr_left h
theorem direct_eq (W : Wf m) (hk : k < 3) (hc : c < m.nc) : Kp432.direct (spm m) (pa m k) c = F (direct m k c) := by
  unfold Kp432.direct direct
  exact total_eq _ _ _ fun a _ => by rw [chance_eq W hk hc, est_eq, mul_F]
theorem lim_eq : Kp432.fraction ((limit : Nat) : Int) 100 = F (lim limit) := fraction_F _ (by decide)
theorem clip_eq (x y : Rat) : Kp432.clipped (F y) (F x) = F (clip x y) := by
  unfold Kp432.clipped clip
  rw [less_F]
  by_cases h : y < x
  · rw [decide_eq_true h, if_pos rfl, if_neg (by grind)]
  · rw [decide_eq_false h, if_neg Bool.false_ne_true]
    by_cases h2 : x < y
    · rw [if_pos h2]
    · rw [if_neg h2]
      congr 1
      grind
theorem term_eq (W : Wf m) (hk : k < 3) (hc : e.c < m.nc) (hp : 0 < e.p) : Kp432.term (spm m) (pa m k) ⟨kind, F (lim limit)⟩ (evF e) = F (term m k kind limit e) := by
  unfold term
  match kind with
  | 0 => exact direct_eq W hk hc
  | 1 =>
    show Kp432.mul (Kp432.weight (pa m k) (evF e)) (Kp432.ofNat e.r) = _
    rw [weight_eq W hk hc hp, ofNat_F, mul_F]
    rfl
  | 2 =>
    show Kp432.mul (Kp432.clipped (F (lim limit)) (Kp432.weight (pa m k) (evF e))) (Kp432.ofNat e.r) = _
    rw [weight_eq W hk hc hp]
    rw [clip_eq, ofNat_F, mul_F]
    rfl
  | n + 3 =>
    show Kp432.add (Kp432.direct (spm m) (pa m k) e.c) (Kp432.mul (Kp432.weight (pa m k) (evF e)) (Kp432.sub (Kp432.ofNat e.r) (Kp432.estimate (spm m) e.c e.a))) = _
    rw [weight_eq W hk hc hp, ofNat_F, est_eq, sub_F, mul_F, direct_eq W hk hc, add_F]
    rfl
theorem ev_in (W : Wf m) {x : Ev} (h : x ∈ m.ev) : x.c < m.nc ∧ 0 < x.p := ⟨(W.ev x h).1, (W.ev x h).2.2.2.1⟩
theorem terms_eq (W : Wf m) (hk : k < 3) : Kp432.terms (spm m) (pa m k) ⟨kind, F (lim limit)⟩ = (terms m k kind limit).map F := by
  unfold Kp432.terms terms
  show (m.ev.map evF).map _ = _
  rw [List.map_map, List.map_map]
  exact List.map_congr_left fun x hx => term_eq W hk (ev_in W hx).1 (ev_in W hx).2
def Agr (y : Kp432.State × Kp432.Ans) (r : Ret) : Prop := y.1 = some (spm r.1) ∧ y.2.num :: y.2.nums = r.2
theorem isPol_eq (k : Nat) : Kp432.isPolicy k = isPol k := decide_eq_decide.mpr (by unfold Kp432.policyCount; omega)
theorem isDec_eq (m : M) (c a : Nat) : Kp432.isDecision (spm m) c a = (isCtx m c && isAct m a) := rfl
theorem frs_eq (l : List Rat) : Kp432.fractionsOf (l.map F) = frs l := by
  unfold Kp432.fractionsOf frs
  rw [List.flatMap_map]
  rfl
theorem evs_len : (spm m).events.length = m.ev.length := List.length_map _
theorem est_opt : Kp432.estimator kind limit = if isEst kind limit = true then some ⟨kind, F (lim limit)⟩ else none := by
  unfold Kp432.estimator
  rw [lim_eq]
  by_cases h : kind ≤ 3 ∧ 1 ≤ limit ∧ limit ≤ 100000
  · rw [if_pos h, if_pos (by unfold isEst; simp [h])]
  · rw [if_neg h, if_neg (by unfold isEst; simp; omega)]
theorem we_eq {least : Nat} {res : Kp432.Policy → Kp432.Estimator → Kp432.Ans} : Kp432.withEstimator (spm m) k kind limit least res = if code m [k] kind limit least = 0 then res (pa m k) ⟨kind, F (lim limit)⟩ else Kp432.single (code m [k] kind limit least) := by
  unfold Kp432.withEstimator code
  rw [isPol_eq, est_opt, evs_len]
  by_cases h1 : isPol k = true
  · have hA : ([k].all isPol) = true := by simp [h1]
    rw [h1, if_neg (by simp), hA, if_pos rfl]
    by_cases h2 : isEst kind limit = true
    · rw [if_pos h2, if_pos h2]
      show (if m.ev.length < least then _ else _) = _
      by_cases h3 : m.ev.length < least
      · rw [if_pos h3, if_neg (show ¬ least ≤ m.ev.length by omega), if_neg (by decide)]
      · rw [if_neg h3, if_pos (show least ≤ m.ev.length by omega), if_pos rfl]
    · rw [if_neg h2, if_neg h2]
      rfl
  · have hA : ¬ ([k].all isPol) = true := by simpa using h1
    rw [if_pos (by simpa using h1), if_neg hA]
    rfl
theorem code_pol {least : Nat} (h : code m [k] kind limit least = 0) : k < 3 ∧ kind ≤ 3 ∧ limit ≤ 100000 ∧ least ≤ m.ev.length := by
  have := code_fine h
  exact ⟨this.1 k (by simp), this.2⟩
theorem law_add {r n d : Nat} : Agr (Kp432.step (some (spm m)) (.addEvent c a r n d)) (oAdd m c a r n d) := by
  show Agr (if Kp432.isDecision (spm m) c a = false then _ else _) _
  unfold oAdd
  rw [isDec_eq, evs_len]
  by_cases h1 : (isCtx m c && isAct m a) = true
  · rw [if_neg (by simp [h1]), if_pos h1]
    have e : (decide (r ≤ 100) && decide (1 ≤ n) && decide (n ≤ d) && decide (d ≤ 1000)) = !(decide (100 < r) || !isProp n d) := by
      unfold isProp
      rw [Bool.eq_iff_iff]
      simp
      omega
    rw [e]
    by_cases h2 : (decide (100 < r) || !isProp n d) = true
    · rw [if_pos (by rw [h2]; rfl), if_pos h2]
      exact ⟨rfl, rfl⟩
    · rw [if_neg (by simp at h2 ⊢; omega), if_neg h2]
      unfold Kp432.maxEvents
      by_cases h3 : 40 ≤ m.ev.length
      · rw [if_pos h3, if_pos h3]
        exact ⟨rfl, rfl⟩
      · rw [if_neg h3, if_neg h3]
        refine ⟨?_, rfl⟩
        have hd : 0 < d := by
          unfold isProp at h2
          simp at h2
          omega
        show some _ = some _
        unfold spm
        rw [List.map_append, fraction_F _ hd]
        rfl
  · rw [if_pos (by simpa using h1), if_neg h1]
    exact ⟨rfl, rfl⟩
theorem law_remove : Agr (Kp432.step (some (spm m)) .removeLast) (oRemove m) := by
  show Agr (if (m.ev.map evF).isEmpty = true then _ else _) _
  unfold oRemove
  by_cases h : m.ev = []
  · rw [if_pos (by rw [h]; rfl), if_pos h]
    exact ⟨rfl, rfl⟩
  · rw [if_neg (by simpa using h), if_neg h]
    refine ⟨?_, by show [_] = _; rw [evs_len]; rfl⟩
    unfold spm
    show some _ = some _
    rw [← List.map_dropLast]
theorem law_log (W : Wf m) {r : Nat} : Agr (Kp432.step (some (spm m)) (.logEvent k c a r)) (oLog m k c a r) := by
  show Agr (if Kp432.isPolicy k = false ∨ Kp432.isDecision (spm m) c a = false then _ else _) _
  unfold oLog
  rw [isPol_eq, isDec_eq, evs_len]
  by_cases h1 : (isPol k && (isCtx m c && isAct m a)) = true
  · have h1' := h1
    rw [Bool.and_eq_true] at h1'
    rw [if_neg (by rw [h1'.1, h1'.2]; simp), if_pos h1]
    by_cases h2 : 100 < r
    · rw [if_pos h2, if_pos h2]
      exact ⟨rfl, rfl⟩
    · rw [if_neg h2, if_neg h2]
      have hc : c < m.nc := of_decide_eq_true (Bool.and_eq_true _ _ ▸ h1'.2 |>.1)
      have hk : k < 3 := by
        have := of_decide_eq_true h1'.1
        omega
      have e : Kp432.chance (Kp432.policyAt (spm m) k) c a = F (chance m k c a) := chance_eq W hk hc
      rw [e]
      by_cases h3 : chance m k c a = 0
      · rw [if_pos (by show (chance m k c a).num = 0; rw [h3]; rfl), if_pos h3]
        exact ⟨rfl, rfl⟩
      · rw [if_neg (by show ¬ (chance m k c a).num = 0; rwa [Rat.num_eq_zero]), if_neg h3]
        unfold Kp432.maxEvents
        by_cases h4 : 40 ≤ m.ev.length
        · rw [if_pos h4, if_pos h4]
          exact ⟨rfl, rfl⟩
        · rw [if_neg h4, if_neg h4]
          refine ⟨?_, rfl⟩
          show some _ = some _
          unfold spm
          rw [List.map_append]
          rfl
  · rw [if_pos (by
      rw [Bool.and_eq_true, Classical.not_and_iff_not_or_not] at h1
      simpa using h1), if_neg h1]
    exact ⟨rfl, rfl⟩
theorem wts_all (l : List Nat) (n : Nat) : ((l.length == n && l.all fun w => decide (w ≤ 1000)) && l.any fun w => decide (0 < w)) = isWts l n := by
  unfold isWts allLe
  have e : (l.any fun w => decide (0 < w)) = decide (0 < l.sum) := by
    induction l with
    | nil => rfl
    | cons x r ih =>
      rw [List.any_cons, ih, List.sum_cons, Bool.eq_iff_iff]
      simp
      omega
  rw [e, Bool.and_assoc]
theorem rews_all (l : List Nat) (n : Nat) : (l.length == n && l.all fun w => decide (w ≤ 100)) = isRews l n := rfl
theorem ctx_not {c : Nat} : (m.nc ≤ c) ↔ isCtx m c = false := by
  unfold isCtx
  simp
theorem law_policy {row : List Nat} : Agr (Kp432.step (some (spm m)) (.setPolicy k c row)) (oPolicy m k c row) := by
  show Agr (if Kp432.isPolicy k = false ∨ m.nc ≤ c then _ else if Kp432.validWeights (spm m) row = false then _ else _) _
  unfold oPolicy Kp432.validWeights
  rw [isPol_eq, wts_all]
  show Agr (if _ then _ else if isWts row m.na = false then _ else _) _
  by_cases h1 : (isPol k && isCtx m c) = true
  · have h1' := h1
    rw [Bool.and_eq_true] at h1'
    rw [if_neg (by rw [ctx_not, h1'.1, h1'.2]; simp), if_pos h1]
    by_cases h2 : isWts row m.na = true
    · rw [if_neg (by rw [h2]; simp), if_pos h2]
      exact ⟨rfl, rfl⟩
    · rw [if_pos (by simpa using h2), if_neg h2]
      exact ⟨rfl, rfl⟩
  · rw [if_pos (by
      rw [Bool.and_eq_true, Classical.not_and_iff_not_or_not] at h1
      rw [ctx_not]
      simpa using h1), if_neg h1]
    exact ⟨rfl, rfl⟩
theorem law_copy {b : Nat} : Agr (Kp432.step (some (spm m)) (.copyPolicy a b)) (oCopy m a b) := by
  show Agr (if Kp432.isPolicy a = false ∨ Kp432.isPolicy b = false then _ else _) _
  unfold oCopy
  rw [isPol_eq, isPol_eq]
  by_cases h1 : (isPol a && isPol b) = true
  · have h1' := h1
    rw [Bool.and_eq_true] at h1'
    rw [if_neg (by rw [h1'.1, h1'.2]; simp), if_pos h1]
    exact ⟨rfl, rfl⟩
  · rw [if_pos (by
      rw [Bool.and_eq_true, Classical.not_and_iff_not_or_not] at h1
      simpa using h1), if_neg h1]
    exact ⟨rfl, rfl⟩
theorem map_set2 (l : List (List Rat)) (i : Nat) (x : List Rat) : (l.set i x).map (·.map F) = (l.map (·.map F)).set i (x.map F) := List.map_set
theorem law_model {row : List Nat} : Agr (Kp432.step (some (spm m)) (.setModel c row)) (oModel m c row) := by
  show Agr (if m.nc ≤ c then _ else if Kp432.validRewards (spm m) row = false then _ else _) _
  unfold oModel Kp432.validRewards
  rw [rews_all]
  show Agr (if _ then _ else if isRews row m.na = false then _ else _) _
  by_cases h1 : isCtx m c = true
  · rw [if_neg (by rw [ctx_not, h1]; simp), if_pos h1]
    by_cases h2 : isRews row m.na = true
    · rw [if_neg (by rw [h2]; simp), if_pos h2]
      refine ⟨?_, rfl⟩
      show some _ = some _
      unfold spm
      rw [map_set2, List.map_map]
      rfl
    · rw [if_pos (by simpa using h2), if_neg h2]
      exact ⟨rfl, rfl⟩
  · rw [if_pos (by rw [ctx_not]; simpa using h1), if_neg h1]
    exact ⟨rfl, rfl⟩
theorem law_truth {x : Nat} {row : List Nat} : Agr (Kp432.step (some (spm m)) (.setTruth c x row)) (oTruth m c x row) := by
  show Agr (if m.nc ≤ c then _ else if (decide (1 ≤ x) && decide (x ≤ 1000) && Kp432.validRewards (spm m) row) = false then _ else _) _
  unfold oTruth Kp432.validRewards
  rw [rews_all]
  show Agr (if _ then _ else if (decide (1 ≤ x) && decide (x ≤ 1000) && isRews row m.na) = false then _ else _) _
  by_cases h1 : isCtx m c = true
  · rw [if_neg (by rw [ctx_not, h1]; simp), if_pos h1]
    by_cases h2 : (decide (1 ≤ x) && decide (x ≤ 1000) && isRews row m.na) = true
    · rw [if_neg (by rw [h2]; simp), if_pos h2]
      exact ⟨rfl, rfl⟩
    · rw [if_pos (by simpa using h2), if_neg h2]
      exact ⟨rfl, rfl⟩
  · rw [if_pos (by rw [ctx_not]; simpa using h1), if_neg h1]
    exact ⟨rfl, rfl⟩
end
end Lw

namespace Lw
/-! ### not below 0 -/
section
variable {m : M} {k c a kind limit : Nat} {e : Ev}
theorem imps_nn (W : Wf m) : ∀ x ∈ imps m k, 0 ≤ x := fun x hx => by
  unfold imps at hx
  obtain ⟨e, he, rfl⟩ := List.mem_map.mp hx
  exact imp_nonneg (ev_in W he).2
theorem posR {x : Rat} (h : 0 ≤ x) (h2 : x ≠ 0) : 0 < x := by grind
theorem zero_num (x : Rat) : (F x).num = 0 ↔ x = 0 := Rat.num_eq_zero
theorem sumW (W : Wf m) (hk : k < 3) : Kp432.sumOfWeights (spm m) (pa m k) = F (imps m k).sum := by
  unfold Kp432.sumOfWeights imps
  show Kp432.total ((m.ev.map evF).map _) = _
  rw [List.map_map]
  exact total_eq _ _ _ fun e he => weight_eq W hk (ev_in W he).1 (ev_in W he).2
theorem rewd_eq (W : Wf m) (hk : k < 3) : Kp432.total (Kp432.terms (spm m) (pa m k) ⟨1, Kp432.ofNat 0⟩) = F (rewd m k).sum := by
  unfold Kp432.terms rewd
  show Kp432.total ((m.ev.map evF).map _) = _
  rw [List.map_map]
  refine total_eq _ _ _ fun e he => ?_
  show Kp432.mul (Kp432.weight (pa m k) (evF e)) (Kp432.ofNat e.r) = _
  rw [weight_eq W hk (ev_in W he).1 (ev_in W he).2, ofNat_F, mul_F]
theorem sum_natR (l : List Ev) : (l.map fun e => (e.r : Rat)).sum = (((l.map Ev.r).sum : Nat) : Rat) := by
  induction l with
  | nil => rfl
  | cons x r ih => rw [List.map_cons, List.sum_cons, ih, List.map_cons, List.sum_cons, Rat.natCast_add]
theorem meanRew_eq (l : List Ev) : Kp432.meanReward (l.map evF) = F (if l.map (fun e => (e.r : Rat)) = [] then 0 else meanR (l.map fun e => (e.r : Rat))) := by
  unfold Kp432.meanReward
  cases l with
  | nil => rfl
  | cons x r =>
    rw [if_neg (by simp), if_neg (by simp), List.map_map]
    have e : (x :: r).map (Kp432.Event.reward ∘ evF) = (x :: r).map Ev.r := rfl
    rw [e, fraction_F _ (by simp), List.length_map, Rat.mkRat_eq_div]
    unfold meanR
    rw [sum_natR, List.length_map]
    rfl
theorem filt (l : List Ev) (p : Kp432.Event → Bool) : (l.map evF).filter p = (l.filter fun e => p (evF e)).map evF := List.filter_map
theorem filt_ca : (m.ev.map evF).filter (fun e => e.context == c && e.action == a) = (m.ev.filter fun e => e.c == c && e.a == a).map evF := List.filter_map
theorem filt_a : (m.ev.map evF).filter (fun e => e.action == a) = (m.ev.filter fun e => e.a == a).map evF := List.filter_map
theorem filt_p : (m.ev.map evF).filter (fun e => e.action == Kp432.preferred (pa m k) e.context) = (m.ev.filter fun e => e.a == best (wts m k e.c)).map evF := List.filter_map
theorem fitted_eq : Kp432.fitted (spm m) c a = F (fitted m c a) := by
  unfold Kp432.fitted fitted here byAct
  show (if ((m.ev.map evF).filter fun e => e.context == c && e.action == a).isEmpty = true then Kp432.meanReward ((m.ev.map evF).filter fun e => e.action == a) else Kp432.meanReward ((m.ev.map evF).filter fun e => e.context == c && e.action == a)) = _
  rw [filt_ca, filt_a, meanRew_eq, meanRew_eq]
  by_cases h : (m.ev.filter fun e => e.c == c && e.a == a) = []
  · rw [h, if_pos (show (([] : List Ev).map evF).isEmpty = true from rfl), if_pos (show ([] : List Ev).map (fun e => (e.r : Rat)) = [] from rfl)]
  · rw [if_neg (by simpa using h), if_neg (by simpa using h), if_neg (by simpa using h)]
theorem law_fit : Agr (Kp432.step (some (spm m)) .fitModel) (oFit m) := by
  refine ⟨?_, by show [_] = _; rw [show (Kp432.step (some (spm m)) .fitModel).2.num = (((spm m).events.length : Nat) : Int) from rfl, evs_len]; rfl⟩
  show some _ = some _
  unfold oFit spm
  congr 2
  unfold Kp432.fit
  rw [List.map_map]
  refine List.map_congr_left fun c _ => ?_
  show List.map _ _ = (fitRow m c).map F
  unfold fitRow
  rw [List.map_map]
  exact List.map_congr_left fun a _ => fitted_eq
theorem frac_ans (x : Rat) (m : M) : Agr (some (spm m), Kp432.fractionResult (F x)) (m, 0 :: frs [x]) := ⟨rfl, rfl⟩
theorem ctx_act (h : (isCtx m c && isAct m a) = true) : c < m.nc ∧ a < m.na := by
  rw [Bool.and_eq_true] at h
  exact ⟨of_decide_eq_true h.1, of_decide_eq_true h.2⟩
theorem isPol_lt (h : isPol k = true) : k < 3 := by
  have := of_decide_eq_true h
  omega
theorem law_prop (W : Wf m) : Agr (Kp432.step (some (spm m)) (.propensity k c a)) (m, oProp m k c a) := by
  show Agr (_, if Kp432.isPolicy k = false ∨ Kp432.isDecision (spm m) c a = false then _ else _) _
  unfold oProp
  rw [isPol_eq, isDec_eq]
  by_cases h1 : (isPol k && (isCtx m c && isAct m a)) = true
  · have h1' := h1
    rw [Bool.and_eq_true] at h1'
    rw [if_neg (by rw [h1'.1, h1'.2]; simp), if_pos h1]
    have e : Kp432.chance (Kp432.policyAt (spm m) k) c a = F (chance m k c a) := chance_eq W (isPol_lt h1'.1) (ctx_act h1'.2).1
    rw [e]
    exact frac_ans _ _
  · rw [if_pos (by
      rw [Bool.and_eq_true, Classical.not_and_iff_not_or_not] at h1
      simpa using h1), if_neg h1]
    exact ⟨rfl, rfl⟩
theorem terms_len : (terms m k kind limit).length = m.ev.length := List.length_map _
theorem terms_ne (h : 1 ≤ m.ev.length) : terms m k kind limit ≠ [] := fun z => by
  have := terms_len (m := m) (k := k) (kind := kind) (limit := limit)
  rw [z] at this
  simp at this
  omega
theorem law_est (W : Wf m) : Agr (Kp432.step (some (spm m)) (.estimate k kind limit)) (m, oEst m k kind limit) := by
  show Agr (_, Kp432.withEstimator (spm m) k kind limit 1 _) _
  unfold oEst
  rw [we_eq]
  by_cases h : code m [k] kind limit 1 = 0
  · have hc := code_pol h
    rw [if_pos h, if_pos h]
    unfold Kp432.value
    rw [terms_eq W hc.1, mean_F _ (terms_ne hc.2.2.2)]
    exact frac_ans _ _
  · rw [if_neg h, if_neg h]
    exact ⟨rfl, rfl⟩
theorem law_norm (W : Wf m) : Agr (Kp432.step (some (spm m)) (.normalized k)) (m, oNorm m k) := by
  show Agr (_, if Kp432.isPolicy k = false then _ else match Kp432.normalized (spm m) (pa m k) with
    | none => Kp432.single (-33)
    | some v => Kp432.fractionResult v) _
  unfold oNorm
  rw [isPol_eq]
  by_cases h1 : isPol k = true
  · have hk := isPol_lt h1
    rw [if_neg (by rw [h1]; simp), if_pos h1]
    unfold Kp432.normalized
    rw [sumW W hk, rewd_eq W hk]
    by_cases h2 : (imps m k).sum = 0
    · rw [if_pos ((zero_num _).mpr h2), if_pos h2]
      exact ⟨rfl, rfl⟩
    · rw [if_neg (fun z => h2 ((zero_num _).mp z)), if_neg h2, over_F _ _ (posR (sum_nonneg (imps_nn W)) h2)]
      exact frac_ans _ _
  · rw [if_pos (by simpa using h1), if_neg h1]
    exact ⟨rfl, rfl⟩
theorem law_replay (W : Wf m) : Agr (Kp432.step (some (spm m)) (.replay k)) (m, oReplay m k) := by
  show Agr (_, if Kp432.isPolicy k = false then _ else if ((m.ev.map evF).filter fun e => e.action == Kp432.preferred (pa m k) e.context).isEmpty = true then _ else (⟨((((m.ev.map evF).filter fun e => e.action == Kp432.preferred (pa m k) e.context).length : Nat) : Int), [(Kp432.meanReward ((m.ev.map evF).filter fun e => e.action == Kp432.preferred (pa m k) e.context)).num, (((Kp432.meanReward ((m.ev.map evF).filter fun e => e.action == Kp432.preferred (pa m k) e.context)).den : Nat) : Int)]⟩ : Kp432.Ans)) _
  unfold oReplay played
  rw [isPol_eq, filt_p, meanRew_eq, List.length_map]
  by_cases h1 : isPol k = true
  · rw [if_neg (by rw [h1]; simp), if_pos h1]
    by_cases h2 : (m.ev.filter fun e => e.a == best (wts m k e.c)) = []
    · rw [h2]
      exact ⟨rfl, rfl⟩
    · have h3 : (m.ev.filter fun e => e.a == best (wts m k e.c)).map (fun e => (e.r : Rat)) ≠ [] := by simpa using h2
      rw [if_neg (by simpa using h2), if_neg h3, if_neg h3, List.length_map]
      exact ⟨rfl, rfl⟩
  · rw [if_pos (by simpa using h1), if_neg h1]
    exact ⟨rfl, rfl⟩
theorem law_eff (W : Wf m) : Agr (Kp432.step (some (spm m)) (.effectiveSize k)) (m, oEff m k) := by
  show Agr (_, if Kp432.isPolicy k = false then _ else match Kp432.effectiveSize (spm m) (pa m k) with
    | none => Kp432.single (-33)
    | some v => Kp432.fractionResult v) _
  unfold oEff
  rw [isPol_eq]
  by_cases h1 : isPol k = true
  · have hk := isPol_lt h1
    rw [if_neg (by rw [h1]; simp), if_pos h1]
    unfold Kp432.effectiveSize
    have e : Kp432.total ((spm m).events.map fun e => Kp432.square (Kp432.weight (pa m k) e)) = F (sqs (imps m k)).sum := by
      show Kp432.total ((m.ev.map evF).map _) = _
      unfold sqs imps
      rw [List.map_map, List.map_map]
      refine total_eq _ _ _ fun e he => ?_
      show Kp432.square (Kp432.weight (pa m k) (evF e)) = _
      rw [weight_eq W hk (ev_in W he).1 (ev_in W he).2, square_F]
      rfl
    simp only [e]
    rw [sumW W hk, square_F]
    by_cases h2 : (sqs (imps m k)).sum = 0
    · rw [if_pos ((zero_num _).mpr h2), if_pos h2]
      exact ⟨rfl, rfl⟩
    · rw [if_neg (fun z => h2 ((zero_num _).mp z)), if_neg h2, over_F _ _ (posR (sum_nonneg fun x hx => by
        unfold sqs at hx
        obtain ⟨y, _, rfl⟩ := List.mem_map.mp hx
        exact sq_nonneg y) h2)]
      exact frac_ans _ _
  · rw [if_pos (by simpa using h1), if_neg h1]
    exact ⟨rfl, rfl⟩
theorem law_var (W : Wf m) : Agr (Kp432.step (some (spm m)) (.variance k kind limit)) (m, oVar m k kind limit) := by
  show Agr (_, Kp432.withEstimator (spm m) k kind limit 2 _) _
  unfold oVar
  rw [we_eq]
  by_cases h : code m [k] kind limit 2 = 0
  · have hc := code_pol h
    rw [if_pos h, if_pos h, terms_eq W hc.1, var_F _ (by rw [terms_len]; exact hc.2.2.2)]
    exact frac_ans _ _
  · rw [if_neg h, if_neg h]
    exact ⟨rfl, rfl⟩
theorem law_int (W : Wf m) {f : Nat} : Agr (Kp432.step (some (spm m)) (.interval k kind limit f)) (m, oInt m k kind limit f) := by
  show Agr (_, if f < 1 ∨ 10000 < f then _ else Kp432.withEstimator (spm m) k kind limit 2 _) _
  unfold oInt
  rw [we_eq]
  by_cases h0 : (decide (1 ≤ f) && decide (f ≤ 10000)) = true
  · rw [if_neg (by simp at h0; omega), if_pos h0]
    by_cases h : code m [k] kind limit 2 = 0
    · have hc := code_pol h
      rw [if_pos h, if_pos h]
      unfold Kp432.value
      rw [terms_eq W hc.1, var_F _ (by rw [terms_len]; exact hc.2.2.2), mean_F _ (terms_ne (by omega)), ofNat_F, mul_F]
      exact ⟨rfl, rfl⟩
    · rw [if_neg h, if_neg h]
      exact ⟨rfl, rfl⟩
  · rw [if_pos (by simp at h0; omega), if_neg h0]
    exact ⟨rfl, rfl⟩
theorem code2 {b least : Nat} : code m [a, b] kind limit least = if isPol b = true then code m [a] kind limit least else -2 := by
  unfold code
  by_cases hb : isPol b = true
  · rw [if_pos hb]
    have e : ([a, b].all isPol) = ([a].all isPol) := by simp [hb]
    rw [e]
  · rw [if_neg hb, if_neg (by simp [hb])]
theorem law_comp (W : Wf m) {b : Nat} : Agr (Kp432.step (some (spm m)) (.compare a b kind limit)) (m, oComp m a b kind limit) := by
  show Agr (_, if Kp432.isPolicy b = false then _ else Kp432.withEstimator (spm m) a kind limit 2 _) _
  unfold oComp
  rw [we_eq, isPol_eq, code2]
  by_cases hb : isPol b = true
  · rw [if_neg (by rw [hb]; simp), if_pos hb]
    by_cases h : code m [a] kind limit 2 = 0
    · have hc := code_pol h
      rw [if_pos h, if_pos h]
      have e : ((Kp432.terms (spm m) (pa m a) ⟨kind, F (lim limit)⟩).zip (Kp432.terms (spm m) (Kp432.policyAt (spm m) b) ⟨kind, F (lim limit)⟩)).map (fun y => Kp432.sub y.1 y.2) = (diffs (terms m a kind limit) (terms m b kind limit)).map F := by
        rw [terms_eq W hc.1, show Kp432.terms (spm m) (Kp432.policyAt (spm m) b) ⟨kind, F (lim limit)⟩ = _ from terms_eq W (isPol_lt hb)]
        unfold diffs
        rw [List.zip_map, List.map_map, List.map_map]
        refine List.map_congr_left fun p _ => ?_
        show Kp432.sub (F p.1) (F p.2) = _
        rw [sub_F]
        rfl
      have hl : (diffs (terms m a kind limit) (terms m b kind limit)).length = m.ev.length := by
        unfold diffs
        rw [List.length_map, List.length_zip, terms_len, terms_len, Nat.min_self]
      simp only [e]
      rw [mean_F _ (fun z => by rw [z] at hl; simp at hl; omega), var_F _ (by omega)]
      exact ⟨rfl, rfl⟩
    · rw [if_neg h, if_neg h]
      exact ⟨rfl, rfl⟩
  · rw [if_pos (by simpa using hb), if_neg hb, if_neg (by decide)]
    exact ⟨rfl, rfl⟩
theorem law_ctx (W : Wf m) : Agr (Kp432.step (some (spm m)) (.byContext k kind limit)) (m, oCtx m k kind limit) := by
  show Agr (_, Kp432.withEstimator (spm m) k kind limit 1 _) _
  unfold oCtx
  rw [we_eq]
  by_cases h : code m [k] kind limit 1 = 0
  · have hc := code_pol h
    rw [if_pos h, if_pos h]
    refine ⟨rfl, ?_⟩
    show _ :: List.flatMap _ _ = _ :: List.flatMap _ _
    congr 1
    congr 1
    funext c
    show ((((m.ev.map evF).filter fun e => e.context == c).map _).length : Int) :: Kp432.fractionsOf [Kp432.mean (((m.ev.map evF).filter fun e => e.context == c).map _)] = ctxAns m k kind limit c
    have e : ((m.ev.map evF).filter fun e => e.context == c).map (Kp432.term (spm m) (pa m k) ⟨kind, F (lim limit)⟩) = (atCtx m k kind limit c).map F := by
      rw [filt]
      unfold atCtx
      rw [List.map_map, List.map_map]
      refine List.map_congr_left fun x hx => ?_
      have hx := (List.mem_filter.mp hx).1
      exact term_eq W hc.1 (ev_in W hx).1 (ev_in W hx).2
    rw [e, List.length_map]
    unfold ctxAns mean0
    by_cases h0 : atCtx m k kind limit c = []
    · rw [h0]
      rfl
    · rw [mean_F _ h0, if_neg h0]
      rfl
  · rw [if_neg h, if_neg h]
    exact ⟨rfl, rfl⟩
theorem law_great (W : Wf m) : Agr (Kp432.step (some (spm m)) (.greatestWeight k)) (m, oGreat m k) := by
  show Agr (_, if Kp432.isPolicy k = false then _ else if (m.ev.map evF).isEmpty = true then _ else Kp432.fractionResult (((m.ev.map evF).map (Kp432.weight (pa m k))).foldl (fun (m x : Kp432.Fraction) => if Kp432.less m x then x else m) (Kp432.ofNat 0))) _
  unfold oGreat
  rw [isPol_eq]
  by_cases h1 : isPol k = true
  · have hk := isPol_lt h1
    rw [if_neg (by rw [h1]; simp), if_pos h1]
    by_cases h2 : m.ev = []
    · rw [if_pos h2, h2]
      exact ⟨rfl, rfl⟩
    · rw [if_neg h2, if_neg (by simpa using h2)]
      have e : (m.ev.map evF).map (Kp432.weight (pa m k)) = (imps m k).map F := by
        unfold imps
        rw [List.map_map, List.map_map]
        exact List.map_congr_left fun e he => weight_eq W hk (ev_in W he).1 (ev_in W he).2
      have fo : ∀ (l : List Rat) (x : Rat), (l.map F).foldl (fun (m x : Kp432.Fraction) => if Kp432.less m x then x else m) (F x) = F (l.foldl (fun f y => if f < y then y else f) x) := by
        intro l
        induction l with
        | nil => intro x; rfl
        | cons y r ih =>
          intro x
          rw [List.map_cons, List.foldl_cons, List.foldl_cons, ← ih]
          congr 1
          rw [less_F]
          by_cases h : x < y
          · rw [decide_eq_true h, if_pos rfl, if_pos h]
          · rw [decide_eq_false h, if_neg Bool.false_ne_true, if_neg h]
      rw [e, ofNat_F, fo]
      have nn := imps_nn (k := k) W
      have hm : (imps m k).foldl (fun f y => if f < y then y else f) ((0 : Nat) : Rat) = maxR (imps m k) := by
        cases hi : imps m k with
        | nil => rfl
        | cons x r =>
          have hx : 0 ≤ x := nn x (by rw [hi]; exact List.mem_cons_self)
          unfold maxR
          show r.foldl _ (if ((0 : Nat) : Rat) < x then x else ((0 : Nat) : Rat)) = r.foldl _ (if x < x then x else x)
          have e1 : (if ((0 : Nat) : Rat) < x then x else ((0 : Nat) : Rat)) = x := by
            show (if (0 : Rat) < x then x else 0) = x
            by_cases h : (0 : Rat) < x
            · rw [if_pos h]
            · rw [if_neg h]
              grind
          rw [e1]
          congr 1
          split <;> rfl
      rw [hm]
      exact frac_ans _ _
  · rw [if_pos (by simpa using h1), if_neg h1]
    exact ⟨rfl, rfl⟩
theorem law_info : Agr (Kp432.step (some (spm m)) (.modelInfo c)) (m, oModelInfo m c) := by
  show Agr (_, if m.nc ≤ c then _ else ⟨(m.na : Int), Kp432.fractionsOf ((m.mo.map (·.map F)).getD c [])⟩) _
  unfold oModelInfo
  by_cases h1 : isCtx m c = true
  · rw [if_neg (by rw [ctx_not, h1]; simp), if_pos h1, getD_map2, frs_eq]
    exact ⟨rfl, rfl⟩
  · rw [if_pos (by rw [ctx_not]; simpa using h1), if_neg h1]
    exact ⟨rfl, rfl⟩
theorem law_status : Agr (Kp432.step (some (spm m)) .status) (m, oStatus m) := by
  refine ⟨rfl, ?_⟩
  show ((m.nc : Nat) : Int) :: List.map (fun (x : Nat) => (x : Int)) [m.na, (m.ev.map evF).length, ((m.ev.map evF).map Kp432.Event.reward).sum] = _
  rw [List.length_map, List.map_map]
  rfl
end
end Lw

namespace Lw
section
variable {m : M} {k g c a kind limit : Nat} {e : Ev}
/-! ### exact expectations -/
theorem ctxP_eq (W : Wf m) : Kp432.contextChance (spm m) c = F (ctxP m c) := fraction_F _ (tw_pos W)
theorem expRew_eq (W : Wf m) (hk : k < 3) (hc : c < m.nc) : Kp432.total ((List.range m.na).map fun a => Kp432.mul (Kp432.chance (pa m k) c a) (Kp432.ofNat (Kp432.rewardIn (spm m) c a))) = F (expRew m k c) := by
  unfold expRew
  exact total_eq _ _ _ fun a _ => by rw [chance_eq W hk hc, ofNat_F, mul_F]; rfl
theorem trueV_eq (W : Wf m) (hk : k < 3) : Kp432.trueValue (spm m) (pa m k) = F (trueV m k) := by
  unfold Kp432.trueValue trueV
  exact total_eq _ _ _ fun c hc => by
    have hc := List.mem_range.mp hc
    rw [ctxP_eq W]
    show Kp432.mul _ (Kp432.total ((List.range m.na).map fun a => Kp432.mul (Kp432.chance (pa m k) c a) (Kp432.ofNat (Kp432.rewardIn (spm m) c a)))) = _
    rw [expRew_eq W hk hc, mul_F]
theorem law_true (W : Wf m) : Agr (Kp432.step (some (spm m)) (.trueValue k)) (m, oTrue m k) := by
  show Agr (_, if Kp432.isPolicy k = true then _ else _) _
  unfold oTrue
  rw [isPol_eq]
  by_cases h1 : isPol k = true
  · rw [if_pos h1, if_pos h1, show Kp432.trueValue (spm m) (Kp432.policyAt (spm m) k) = _ from trueV_eq W (isPol_lt h1)]
    exact frac_ans _ _
  · rw [if_neg h1, if_neg h1]
    exact ⟨rfl, rfl⟩
theorem chance_zero : (F (chance m k c a)).num = 0 ↔ ¬ 0 < chance m k c a := by
  rw [zero_num]
  have := chance_nonneg (m := m) (k := k) (c := c) (a := a)
  grind
theorem poss_at (W : Wf m) (hg : g < 3) (hc : c < m.nc) : (if (Kp432.chance (pa m g) c a).num = 0 then none else some (Kp432.mul (Kp432.contextChance (spm m) c) (Kp432.chance (pa m g) c a), (⟨c, a, Kp432.rewardIn (spm m) c a, Kp432.chance (pa m g) c a⟩ : Kp432.Event))) = (possAt m g c a).map fun d => (F d.1, evF d.2) := by
  rw [chance_eq W hg hc, ctxP_eq W, mul_F]
  unfold possAt
  by_cases h : 0 < chance m g c a
  · rw [if_neg (fun z => (chance_zero.mp z) h), if_pos h]
    rfl
  · rw [if_pos (chance_zero.mpr h), if_neg h]
    rfl
theorem flatMap_congr' {α β : Type} {l : List α} {f h : α → List β} (e : ∀ x ∈ l, f x = h x) : l.flatMap f = l.flatMap h := by
  induction l with
  | nil => rfl
  | cons x r ih => rw [List.flatMap_cons, List.flatMap_cons, e x List.mem_cons_self, ih fun y hy => e y (List.mem_cons_of_mem _ hy)]
theorem poss_eq (W : Wf m) (hg : g < 3) : Kp432.decisions (spm m) (pa m g) = (possible m g).map fun d => (F d.1, evF d.2) := by
  unfold Kp432.decisions possible
  rw [List.map_flatMap]
  refine flatMap_congr' fun c hc => ?_
  have hc := List.mem_range.mp hc
  rw [List.map_filterMap]
  show (List.range m.na).filterMap _ = _
  congr 1
  funext a
  exact poss_at W hg hc
theorem poss_p {d : Rat × Ev} (h : d ∈ possible m g) : d.2.c < m.nc ∧ 0 < d.2.p := by
  have x := poss_mem h
  have e : d.2.p = chance m g d.2.c d.2.a := by
    have := congrArg (fun z => z.2.p) x.2.2.2
    exact this
  exact ⟨x.1, by rw [e]; exact x.2.2.1⟩
theorem mid_eq (W : Wf m) (hg : g < 3) (hk : k < 3) : Kp432.expected (spm m) (pa m g) (pa m k) ⟨kind, F (lim limit)⟩ = F (momMid m g k kind limit) := by
  unfold Kp432.expected momMid
  rw [poss_eq W hg, List.map_map]
  refine total_eq _ _ _ fun d hd => ?_
  show Kp432.mul (F d.1) (Kp432.term (spm m) (pa m k) ⟨kind, F (lim limit)⟩ (evF d.2)) = _
  rw [term_eq W hk (poss_p hd).1 (poss_p hd).2, mul_F]
theorem spread_gen (l : List (Rat × Rat)) (u : Rat) : (l.map fun d => d.1 * ((d.2 - u) * (d.2 - u))).sum = (l.map fun d => d.1 * (d.2 * d.2)).sum - 2 * u * (l.map fun d => d.1 * d.2).sum + u * u * (l.map fun d => d.1).sum := by
  induction l with
  | nil => simp; grind
  | cons x r ih =>
    simp only [List.map_cons, List.sum_cons]
    rw [ih]
    grind
theorem sum_div (l : List Nat) (s : Rat) : (l.map fun x => ((x : Nat) : Rat) / s).sum = ((l.sum : Nat) : Rat) / s := by
  induction l with
  | nil =>
    show (0 : Rat) = ((0 : Nat) : Rat) / s
    rw [Rat.div_def]
    grind
  | cons x r ih =>
    rw [List.map_cons, List.sum_cons, ih, List.sum_cons, Rat.natCast_add]
    grind
theorem range_getD (l : List Nat) : (List.range l.length).map (fun i => l.getD i 0) = l := by
  refine List.ext_getElem? fun i => ?_
  rw [List.getElem?_map]
  by_cases h : i < l.length
  · rw [List.getElem?_range h, List.getElem?_eq_getElem h]
    show some (l.getD i 0) = _
    rw [List.getD_eq_getElem?_getD, List.getElem?_eq_getElem h]
    rfl
  · rw [List.getElem?_eq_none (by rw [List.length_range]; omega), List.getElem?_eq_none (by omega)]
    rfl
theorem parts_one (l : List Nat) (h : 0 < l.sum) : ((List.range l.length).map fun i => mkRat ((l.getD i 0 : Nat) : Int) l.sum).sum = 1 := by
  have e : ((List.range l.length).map fun i => mkRat ((l.getD i 0 : Nat) : Int) l.sum) = ((List.range l.length).map fun i => l.getD i 0).map fun x => ((x : Nat) : Rat) / ((l.sum : Nat) : Rat) := by
    rw [List.map_map]
    refine List.map_congr_left fun i _ => ?_
    rw [Rat.mkRat_eq_div]
    rfl
  rw [e, range_getD, sum_div]
  have := nat_ne h
  grind
theorem sum_mul (x : Rat) (l : List Rat) : (l.map fun y => x * y).sum = x * l.sum := by
  induction l with
  | nil => simp
  | cons y r ih => rw [List.map_cons, List.sum_cons, ih, List.sum_cons]; grind
theorem sum_flat {α : Type} (l : List α) (f : α → List Rat) : (l.flatMap f).sum = (l.map fun x => (f x).sum).sum := by
  induction l with
  | nil => rfl
  | cons x r ih => rw [List.flatMap_cons, sum_app, ih, List.map_cons, List.sum_cons]
theorem poss_row (c : Nat) (l : List Nat) : ((l.filterMap (possAt m g c)).map fun d => d.1).sum = (l.map fun a => ctxP m c * chance m g c a).sum := by
  induction l with
  | nil => rfl
  | cons a r ih =>
    rw [List.map_cons, List.sum_cons, ← ih]
    by_cases h : 0 < chance m g c a
    · rw [List.filterMap_cons_some (b := (ctxP m c * chance m g c a, ⟨c, a, rew m c a, chance m g c a⟩)) (by unfold possAt; rw [if_pos h]), List.map_cons, List.sum_cons]
    · rw [List.filterMap_cons_none (by unfold possAt; rw [if_neg h])]
      have : chance m g c a = 0 := by
        have := chance_nonneg (m := m) (k := g) (c := c) (a := a)
        grind
      rw [this]
      grind
theorem poss_one (W : Wf m) (hg : g < 3) : ((possible m g).map fun d => d.1).sum = 1 := by
  unfold possible
  rw [List.map_flatMap, sum_flat]
  have e : ((List.range m.nc).map fun c => (((List.range m.na).filterMap (possAt m g c)).map fun d => d.1).sum) = (List.range m.tw.length).map fun c => mkRat ((m.tw.getD c 0 : Nat) : Int) m.tw.sum := by
    rw [W.tw.1]
    refine List.map_congr_left fun c hc => ?_
    have hc := List.mem_range.mp hc
    rw [poss_row]
    have h := wts_ok W hg hc
    have e2 : ((List.range m.na).map fun a => ctxP m c * chance m g c a) = ((List.range m.na).map fun a => chance m g c a).map fun y => ctxP m c * y := by
      rw [List.map_map]
      rfl
    rw [e2, sum_mul]
    have e3 : ((List.range m.na).map fun a => chance m g c a).sum = 1 := by
      rw [← h.1]
      exact parts_one _ h.2.2
    rw [e3]
    unfold ctxP
    grind
  rw [e]
  exact parts_one _ (tw_pos W)
theorem spread_eq (W : Wf m) (hg : g < 3) (hk : k < 3) : Kp432.termVariance (spm m) (pa m g) (pa m k) ⟨kind, F (lim limit)⟩ = F (momSpread m g k kind limit) := by
  unfold Kp432.termVariance
  rw [mid_eq W hg hk, square_F]
  have e1 : Kp432.total ((Kp432.decisions (spm m) (pa m g)).map fun d => Kp432.mul d.1 (Kp432.square (Kp432.term (spm m) (pa m k) ⟨kind, F (lim limit)⟩ d.2))) = F ((possible m g).map fun d => d.1 * (term m k kind limit d.2 * term m k kind limit d.2)).sum := by
    rw [poss_eq W hg, List.map_map]
    refine total_eq _ _ _ fun d hd => ?_
    show Kp432.mul (F d.1) (Kp432.square (Kp432.term (spm m) (pa m k) ⟨kind, F (lim limit)⟩ (evF d.2))) = _
    rw [term_eq W hk (poss_p hd).1 (poss_p hd).2, square_F, mul_F]
  rw [e1, sub_F]
  congr 1
  unfold momSpread
  have sg := spread_gen ((possible m g).map fun d => (d.1, term m k kind limit d.2)) (momMid m g k kind limit)
  rw [List.map_map, List.map_map, List.map_map, List.map_map] at sg
  have p1 : ((possible m g).map ((fun d : Rat × Rat => d.1) ∘ fun d => (d.1, term m k kind limit d.2))).sum = 1 := poss_one W hg
  have p2 : ((possible m g).map ((fun d : Rat × Rat => d.1 * d.2) ∘ fun d => (d.1, term m k kind limit d.2))).sum = momMid m g k kind limit := rfl
  rw [p1, p2] at sg
  have sg' : ((possible m g).map fun d => d.1 * ((term m k kind limit d.2 - momMid m g k kind limit) * (term m k kind limit d.2 - momMid m g k kind limit))).sum = ((possible m g).map fun d => d.1 * (term m k kind limit d.2 * term m k kind limit d.2)).sum - 2 * momMid m g k kind limit * momMid m g k kind limit + momMid m g k kind limit * momMid m g k kind limit * 1 := sg
  rw [sg']
  grind
theorem law_exp (W : Wf m) : Agr (Kp432.step (some (spm m)) (.expectation g k kind limit)) (m, oExp m g k kind limit) := by
  show Agr (_, if Kp432.isPolicy g = false then _ else Kp432.withEstimator (spm m) k kind limit 0 _) _
  unfold oExp
  rw [we_eq, isPol_eq]
  by_cases h1 : isPol g = true
  · rw [if_neg (by rw [h1]; simp)]
    by_cases h2 : isPol k = true
    · rw [if_pos (show (isPol g && isPol k) = true by rw [h1, h2]; rfl)]
      by_cases h3 : isEst kind limit = true
      · have hc : code m [k] kind limit 0 = 0 := by
          unfold code
          rw [if_pos (by simp [h2]), if_pos h3, if_pos (by omega)]
        rw [if_pos hc, if_pos h3]
        have e1 : Kp432.expected (spm m) (Kp432.policyAt (spm m) g) (pa m k) ⟨kind, F (lim limit)⟩ = _ := mid_eq W (isPol_lt h1) (isPol_lt h2)
        have e2 : Kp432.termVariance (spm m) (Kp432.policyAt (spm m) g) (pa m k) ⟨kind, F (lim limit)⟩ = _ := spread_eq W (isPol_lt h1) (isPol_lt h2)
        rw [e1, e2]
        exact ⟨rfl, rfl⟩
      · have hc : code m [k] kind limit 0 = -22 := by
          unfold code
          rw [if_pos (by simp [h2]), if_neg h3]
        rw [hc, if_neg (by decide), if_neg h3]
        exact ⟨rfl, rfl⟩
    · have hc : code m [k] kind limit 0 = -2 := by
        unfold code
        rw [if_neg (by simpa using h2)]
      rw [hc, if_neg (by decide), if_neg (by simp [h2])]
      exact ⟨rfl, rfl⟩
  · rw [if_pos (by simpa using h1), if_neg (by simp [h1])]
    exact ⟨rfl, rfl⟩
theorem unsup_eq (W : Wf m) (hg : g < 3) (hk : k < 3) : Kp432.unsupported (spm m) (pa m g) (pa m k) = unsup m g k := by
  unfold Kp432.unsupported unsup
  refine flatMap_congr' fun c hc => ?_
  have hc := List.mem_range.mp hc
  show List.map _ _ = List.map _ _
  congr 1
  show (List.range m.na).filter _ = _
  refine List.filter_congr fun a _ => ?_
  rw [chance_eq W hg hc, chance_eq W hk hc]
  unfold unsupAt
  rw [Bool.eq_iff_iff]
  simp only [Bool.and_eq_true, bne_iff_ne, beq_iff_eq, decide_eq_true_eq, ne_eq, zero_num]
  have := chance_nonneg (m := m) (k := k) (c := c) (a := a)
  constructor
  · rintro ⟨h1, h2⟩
    exact ⟨by grind, h2⟩
  · rintro ⟨h1, h2⟩
    exact ⟨by grind, h2⟩
theorem law_uns (W : Wf m) : Agr (Kp432.step (some (spm m)) (.unsupported g k)) (m, oUns m g k) := by
  show Agr (_, if Kp432.isPolicy g = false ∨ Kp432.isPolicy k = false then _ else _) _
  unfold oUns
  rw [isPol_eq, isPol_eq]
  by_cases h1 : (isPol g && isPol k) = true
  · have h1' := h1
    rw [Bool.and_eq_true] at h1'
    have e : Kp432.unsupported (spm m) (Kp432.policyAt (spm m) g) (Kp432.policyAt (spm m) k) = _ := unsup_eq W (isPol_lt h1'.1) (isPol_lt h1'.2)
    rw [if_neg (by rw [h1'.1, h1'.2]; simp), if_pos h1, e]
    refine ⟨rfl, ?_⟩
    show _ :: List.map _ (List.flatMap _ _) = _ :: pairs _
    congr 1
    unfold pairs
    rw [List.map_flatMap]
    rfl
  · rw [if_pos (by
      rw [Bool.and_eq_true, Classical.not_and_iff_not_or_not] at h1
      simpa using h1), if_neg h1]
    exact ⟨rfl, rfl⟩
end
end Lw

namespace Lw
/-! ### ranked lists -/
section
variable {m : M} {l row : List Nat}
theorem valid_eq (l : List Nat) (t : Nat) : Kp432.validList l t = isRanked l 1 t := rfl
theorem rk_le {least t : Nat} (h : isRanked l least t = true) : ∀ x ∈ l, x ≤ t := by
  unfold isRanked allLe at h
  rw [Bool.and_eq_true] at h
  intro x hx
  exact of_decide_eq_true (List.all_eq_true.mp h.2 x hx)
theorem rk_len {least t : Nat} (h : isRanked l least t = true) : least ≤ l.length ∧ l.length ≤ 12 := by
  unfold isRanked at h
  simp at h
  omega
theorem hits_sum (h : ∀ x ∈ l, x ≤ 1) : Kp432.hits l = l.sum := by
  unfold Kp432.hits
  induction l with
  | nil => rfl
  | cons x r ih =>
    have hx := h x List.mem_cons_self
    rw [List.countP_cons, ih fun y hy => h y (List.mem_cons_of_mem _ hy), List.sum_cons]
    by_cases h0 : x = 0
    · rw [h0]
      simp
    · have : x = 1 := by omega
      rw [this]
      simp
      omega
theorem prec_eq {n : Nat} (hn : 0 < n) (h : ∀ x ∈ l, x ≤ 1) : Kp432.precision n l = F (precAt l n) := by
  unfold Kp432.precision precAt
  rw [hits_sum fun x hx => h x (List.mem_of_mem_take hx)]
  exact fraction_F _ hn
theorem law_prec {n : Nat} : Agr (Kp432.step (some (spm m)) (.precision n row)) (m, oPrec n row) := by
  show Agr (_, if (Kp432.validList row 1 && decide (1 ≤ n) && decide (n ≤ 12)) = false then _ else _) _
  unfold oPrec
  rw [valid_eq]
  have e : (isRanked row 1 1 && decide (1 ≤ n) && decide (n ≤ 12)) = ((decide (1 ≤ n) && decide (n ≤ 12)) && isRanked row 1 1) := by
    rw [Bool.and_assoc, Bool.and_comm]
  rw [e]
  by_cases h1 : ((decide (1 ≤ n) && decide (n ≤ 12)) && isRanked row 1 1) = true
  · rw [if_neg (by rw [h1]; simp), if_pos h1]
    rw [Bool.and_eq_true, Bool.and_eq_true] at h1
    rw [prec_eq (of_decide_eq_true h1.1.1) (rk_le h1.2)]
    exact frac_ans _ _
  · rw [if_pos (by simpa using h1), if_neg h1]
    exact ⟨rfl, rfl⟩
/-- the hits by induction -/
theorem hits_cons (x : Nat) (l : List Nat) : hitsAt (x :: l) = (if x = 1 then [0] else []) ++ (hitsAt l).map (· + 1) := by
  unfold hitsAt
  rw [List.length_cons, List.range_succ_eq_map, List.filter_cons, List.filter_map]
  have e : (fun i => (x :: l).getD i 0 == 1) ∘ Nat.succ = fun i => l.getD i 0 == 1 := by
    funext i
    rfl
  rw [e]
  by_cases h : x = 1
  · rw [if_pos (by show (x == 1) = true; simp [h]), if_pos h]
    rfl
  · rw [if_neg (by show ¬ (x == 1) = true; simp [h]), if_neg h]
    rfl
theorem hits_len (h : ∀ x ∈ l, x ≤ 1) : (hitsAt l).length = Kp432.hits l := by
  rw [hits_sum h]
  induction l with
  | nil => rfl
  | cons x r ih =>
    have hx := h x List.mem_cons_self
    rw [hits_cons, List.length_append, List.length_map, ih fun y hy => h y (List.mem_cons_of_mem _ hy), List.sum_cons]
    by_cases h1 : x = 1
    · rw [if_pos h1, h1]
      rfl
    · rw [if_neg h1]
      show 0 + r.sum = _
      omega
theorem getD_le (h : ∀ x ∈ l, x ≤ 1) (i : Nat) : l.getD i 0 ≤ 1 := by
  rw [List.getD_eq_getElem?_getD]
  cases q : l[i]? with
  | none => exact Nat.zero_le _
  | some x => exact h x (List.mem_of_getElem? q)
theorem avg_eq (h : ∀ x ∈ l, x ≤ 1) : Kp432.averagePrecision l = F (avgPrec l) := by
  unfold Kp432.averagePrecision avgPrec
  have e : ((List.range l.length).filter fun i => l.getD i 0 != 0) = hitsAt l := by
    unfold hitsAt
    refine List.filter_congr fun i _ => ?_
    have := getD_le h i
    rw [Bool.eq_iff_iff]
    simp only [bne_iff_ne, beq_iff_eq, ne_eq]
    omega
  have hl := hits_len h
  by_cases h0 : hitsAt l = []
  · rw [if_pos (by rw [← hl, h0]; rfl), if_pos h0]
    rfl
  · have hp : 0 < Kp432.hits l := by
      rw [← hl]
      exact List.length_pos_iff.mpr h0
    rw [if_neg (by omega), if_neg h0, e]
    have e2 : Kp432.total ((hitsAt l).map fun i => Kp432.precision (i + 1) l) = F ((hitsAt l).map fun i => precAt l (i + 1)).sum := total_eq _ _ _ fun i _ => prec_eq (by omega) h
    rw [e2, one_over _ hp, mul_F]
    unfold meanR
    rw [List.length_map, hl]
    congr 1
    grind
theorem find_hits (h : ∀ x ∈ l, x ≤ 1) : (l.findIdx? fun x => x != 0) = (hitsAt l).head? := by
  induction l with
  | nil => rfl
  | cons x r ih =>
    have hx := h x List.mem_cons_self
    rw [List.findIdx?_cons, hits_cons, ih fun y hy => h y (List.mem_cons_of_mem _ hy)]
    by_cases h1 : x = 1
    · rw [if_pos (by simp [h1]), if_pos h1]
      rfl
    · have h0 : x = 0 := by omega
      rw [if_neg (by simp [h0]), if_neg h1, List.nil_append, List.head?_map]
theorem rec_eq (h : ∀ x ∈ l, x ≤ 1) : Kp432.reciprocalRank l = F (recRank l) := by
  unfold Kp432.reciprocalRank recRank
  rw [find_hits h]
  cases hitsAt l with
  | nil => rfl
  | cons i _ => exact fraction_F _ (by omega)
theorem law_rank : Agr (Kp432.step (some (spm m)) (.rankMeasures row)) (m, oRank row) := by
  show Agr (_, if Kp432.validList row 1 = false then _ else _) _
  unfold oRank
  rw [valid_eq]
  by_cases h1 : isRanked row 1 1 = true
  · rw [if_neg (by rw [h1]; simp), if_pos h1, avg_eq (rk_le h1), rec_eq (rk_le h1), hits_sum (rk_le h1)]
    exact ⟨rfl, rfl⟩
  · rw [if_pos (by simpa using h1), if_neg h1]
    exact ⟨rfl, rfl⟩
theorem disc_eq (l : List Nat) : Kp432.discounted l = F (disc l) := by
  unfold Kp432.discounted disc
  exact total_eq _ _ _ fun i _ => fraction_F _ (by omega)
theorem ins_perm (x : Nat) : ∀ l : List Nat, (Kp432.insertDown x l).Perm (x :: l)
  | [] => .refl _
  | y :: r => by
    unfold Kp432.insertDown
    split
    · exact .refl _
    · exact ((ins_perm x r).cons y).trans (.swap _ _ _)
theorem ins_sorted (x : Nat) : ∀ {l : List Nat}, l.Pairwise (· ≥ ·) → (Kp432.insertDown x l).Pairwise (· ≥ ·)
  | [], _ => List.pairwise_singleton _ _
  | y :: r, h => by
    have h' := List.pairwise_cons.mp h
    unfold Kp432.insertDown
    split
    · rename_i hy
      refine List.pairwise_cons.mpr ⟨fun z hz => ?_, h⟩
      rcases List.mem_cons.mp hz with rfl | hz
      · omega
      · have := h'.1 z hz
        omega
    · rename_i hy
      refine List.pairwise_cons.mpr ⟨fun z hz => ?_, ins_sorted x h'.2⟩
      rcases List.mem_cons.mp ((ins_perm x r).mem_iff.mp hz) with rfl | hz
      · omega
      · exact h'.1 z hz
theorem fold_down (l : List Nat) : ∀ acc : List Nat, acc.Pairwise (· ≥ ·) → (l.foldl (fun m x => Kp432.insertDown x m) acc).Pairwise (· ≥ ·) ∧ (l.foldl (fun m x => Kp432.insertDown x m) acc).Perm (acc ++ l) := by
  induction l with
  | nil => intro acc h; exact ⟨h, by rw [List.append_nil]; exact .refl _⟩
  | cons x r ih =>
    intro acc h
    have := ih (Kp432.insertDown x acc) (ins_sorted x h)
    refine ⟨this.1, this.2.trans ?_⟩
    refine ((ins_perm x acc).append_right r).trans ?_
    exact (List.perm_middle).symm
theorem sort_sorted (l : List Nat) : (sortDown l).Pairwise (· ≥ ·) := by
  unfold sortDown
  have := List.pairwise_mergeSort (le := fun a b : Nat => decide (b ≤ a)) (fun a b c h1 h2 => by simp at *; omega) (fun a b => by simp; omega) l
  exact this.imp fun h => by simpa using h
theorem ideal_eq (l : List Nat) : Kp432.ideal l = F (disc (sortDown l)) := by
  unfold Kp432.ideal
  rw [disc_eq]
  congr 2
  have f := fold_down l [] .nil
  rw [List.nil_append] at f
  refine List.Perm.eq_of_pairwise (le := (· ≥ ·)) (fun a b _ _ h1 h2 => by omega) f.1 (sort_sorted l) (f.2.trans (sort_perm l).symm)
theorem disc_nonneg (l : List Nat) : 0 ≤ disc l := by
  unfold disc
  refine sum_nonneg fun x hx => ?_
  obtain ⟨i, _, rfl⟩ := List.mem_map.mp hx
  exact mk_nonneg _ _
theorem le_sumN {l : List Nat} {x : Nat} (h : x ∈ l) : x ≤ l.sum := by
  induction l with
  | nil => cases h
  | cons y r ih =>
    rw [List.sum_cons]
    rcases List.mem_cons.mp h with rfl | h
    · omega
    · have := ih h
      omega
theorem disc_zero {l : List Nat} (h : l.sum = 0) : disc l = 0 := by
  unfold disc
  have : ∀ i, l.getD i 0 = 0 := by
    intro i
    rw [List.getD_eq_getElem?_getD]
    cases q : l[i]? with
    | none => rfl
    | some x =>
      have hx := List.mem_of_getElem? q
      show x = 0
      have : x ≤ l.sum := le_sumN hx
      omega
  have e : ((List.range l.length).map fun i => mkRat ((l.getD i 0 : Nat) : Int) (i + 1)) = (List.range l.length).map fun _ => (0 : Rat) := by
    refine List.map_congr_left fun i _ => ?_
    rw [this i]
    exact Rat.zero_mkRat _
  rw [e]
  generalize List.range l.length = r
  induction r with
  | nil => rfl
  | cons x r ih =>
    rw [List.map_cons, List.sum_cons, ih]
    exact Rat.add_zero 0
theorem law_gains : Agr (Kp432.step (some (spm m)) (.gains row)) (m, oGains row) := by
  show Agr (_, if Kp432.validList row 100 = false then _ else if (Kp432.ideal row).num = 0 then _ else _) _
  unfold oGains
  rw [valid_eq, ideal_eq, disc_eq]
  by_cases h1 : isRanked row 1 100 = true
  · rw [if_neg (by rw [h1]; simp), if_pos h1]
    by_cases h2 : row.sum = 0
    · rw [if_pos ((zero_num _).mpr (disc_zero (by rw [sort_sum]; exact h2))), if_pos h2]
      exact ⟨rfl, rfl⟩
    · have hp := disc_pos_of (l := sortDown row) (by rw [sort_sum]; exact h2)
      rw [if_neg (fun z => by rw [(zero_num _).mp z] at hp; exact Rat.lt_irrefl hp), if_neg h2, over_F _ _ hp]
      exact ⟨rfl, rfl⟩
  · rw [if_pos (by simpa using h1), if_neg h1]
    exact ⟨rfl, rfl⟩
/-! pairs -/
def conc (l : List Nat) : Nat := match l with
  | [] => 0
  | x :: r => r.countP (fun y => decide (x < y)) + conc r
def disco (l : List Nat) : Nat := match l with
  | [] => 0
  | x :: r => r.countP (fun y => decide (y < x)) + disco r
theorem pairs_succ (n : Nat) : Kp432.pairsOf (n + 1) = ((List.range n).map fun j => (0, j + 1)) ++ (Kp432.pairsOf n).map fun p => (p.1 + 1, p.2 + 1) := by
  unfold Kp432.pairsOf
  rw [List.range_succ_eq_map, List.flatMap_cons]
  congr 1
  · rw [List.filter_cons, if_neg (by decide), List.filter_map]
    have e : (fun j => decide (0 < j)) ∘ Nat.succ = fun _ => true := by
      funext j
      simp
    rw [e, List.filter_eq_self.mpr (fun _ _ => rfl), List.map_map]
    rfl
  · rw [List.flatMap_map, List.map_flatMap]
    congr 1
    funext i
    rw [List.filter_cons, if_neg (by simp), List.filter_map, List.map_map, List.map_map]
    have e : (fun j => decide (Nat.succ i < j)) ∘ Nat.succ = fun j => decide (i < j) := by
      funext j
      simp
    rw [e]
    rfl
theorem countP_range (l : List Nat) (p : Nat → Bool) : (List.range l.length).countP (fun j => p (l.getD j 0)) = l.countP p := by
  have := List.countP_map (p := p) (f := fun j => l.getD j 0) (l := List.range l.length)
  rw [range_getD] at this
  exact this.symm
theorem conc_eq (l : List Nat) : Kp432.concordant l = conc l := by
  unfold Kp432.concordant
  induction l with
  | nil => rfl
  | cons x r ih =>
    rw [List.length_cons, pairs_succ, List.countP_append, List.countP_map, List.countP_map]
    show (List.range r.length).countP (fun j => decide (x < r.getD j 0)) + (Kp432.pairsOf r.length).countP (fun p => decide (r.getD p.1 0 < r.getD p.2 0)) = _
    rw [ih, countP_range r fun y => decide (x < y)]
    rfl
theorem disco_eq (l : List Nat) : Kp432.discordant l = disco l := by
  unfold Kp432.discordant
  induction l with
  | nil => rfl
  | cons x r ih =>
    rw [List.length_cons, pairs_succ, List.countP_append, List.countP_map, List.countP_map]
    show (List.range r.length).countP (fun j => decide (r.getD j 0 < x)) + (Kp432.pairsOf r.length).countP (fun p => decide (r.getD p.2 0 < r.getD p.1 0)) = _
    rw [ih, countP_range r fun y => decide (y < x)]
    rfl
theorem prs_len (n : Nat) : (Kp432.pairsOf n).length = n * (n - 1) / 2 := by
  have h : ∀ n, 2 * (Kp432.pairsOf n).length = n * (n - 1) := by
    intro n
    induction n with
    | zero => rfl
    | succ n ih =>
      rw [pairs_succ, List.length_append, List.length_map, List.length_map, List.length_range, Nat.mul_add, ih]
      cases n with
      | zero => rfl
      | succ n =>
        show 2 * (n + 1) + (n + 1) * n = (n + 2) * (n + 1)
        rw [Nat.mul_comm (n + 1) n, ← Nat.add_mul]
        congr 1
        omega
  have := h n
  omega
theorem range_take (l : List Nat) (j : Nat) (hj : j ≤ l.length) (p : Nat → Bool) : ((List.range j).filter fun i => p (l.getD i 0)).length = (l.take j).countP p := by
  rw [← List.countP_eq_length_filter]
  have h := countP_range (l.take j) p
  rw [List.length_take, Nat.min_eq_left hj] at h
  rw [← h]
  refine List.countP_congr fun i hi => ?_
  have hi := List.mem_range.mp hi
  rw [List.getD_eq_getElem?_getD, List.getD_eq_getElem?_getD, List.getElem?_take_of_lt hi]
theorem rising_app (l : List Nat) (x : Nat) : rising (l ++ [x]) = rising l + l.countP fun y => decide (y < x) := by
  unfold rising
  rw [List.length_append, List.length_singleton, List.range_succ, List.map_append, List.sum_append]
  congr 1
  · congr 1
    refine List.map_congr_left fun j hj => ?_
    have hj := List.mem_range.mp hj
    congr 1
    refine List.filter_congr fun i hi => ?_
    have hi := List.mem_range.mp hi
    rw [List.getD_eq_getElem?_getD, List.getD_eq_getElem?_getD, List.getElem?_append_left (by omega), List.getElem?_append_left (by omega), List.getD_eq_getElem?_getD, List.getD_eq_getElem?_getD]
  · show List.sum [_] = _
    rw [List.sum_singleton]
    have e : ((List.range l.length).filter fun i => decide ((l ++ [x]).getD i 0 < (l ++ [x]).getD l.length 0)) = (List.range l.length).filter fun i => decide (l.getD i 0 < x) := by
      refine List.filter_congr fun i hi => ?_
      have hi := List.mem_range.mp hi
      rw [List.getD_eq_getElem?_getD, List.getD_eq_getElem?_getD, List.getElem?_append_left hi, List.getElem?_append_right (Nat.le_refl _), Nat.sub_self, List.getD_eq_getElem?_getD]
      rfl
    show ((List.range l.length).filter fun i => decide ((l ++ [x]).getD i 0 < (l ++ [x]).getD l.length 0)).length = _
    rw [e, range_take l l.length (Nat.le_refl _) fun y => decide (y < x), List.take_length]
theorem rising_cons (x : Nat) (l : List Nat) : rising (x :: l) = (l.countP fun y => decide (x < y)) + rising l := by
  unfold rising
  rw [List.length_cons, List.range_succ_eq_map, List.map_cons, List.sum_cons, List.map_map]
  show 0 + _ = _
  rw [Nat.zero_add]
  have e : ∀ j, ((fun j => ((List.range j).filter fun i => decide ((x :: l).getD i 0 < (x :: l).getD j 0)).length) ∘ Nat.succ) j = (if x < l.getD j 0 then 1 else 0) + ((List.range j).filter fun i => decide (l.getD i 0 < l.getD j 0)).length := by
    intro j
    show ((List.range (j + 1)).filter fun i => decide ((x :: l).getD i 0 < l.getD j 0)).length = _
    rw [List.range_succ_eq_map, List.filter_cons, List.filter_map]
    have e2 : (fun i => decide ((x :: l).getD i 0 < l.getD j 0)) ∘ Nat.succ = fun i => decide (l.getD i 0 < l.getD j 0) := rfl
    rw [e2]
    show (if decide (x < l.getD j 0) = true then 0 :: List.map Nat.succ ((List.range j).filter fun i => decide (l.getD i 0 < l.getD j 0)) else List.map Nat.succ ((List.range j).filter fun i => decide (l.getD i 0 < l.getD j 0))).length = _
    by_cases h : x < l.getD j 0
    · rw [if_pos (decide_eq_true h), if_pos h, List.length_cons, List.length_map]
      omega
    · rw [if_neg (by show ¬ decide (x < l.getD j 0) = true; simpa using h), if_neg h, List.length_map]
      omega
  rw [List.map_congr_left fun j _ => e j]
  have e3 : ∀ (r : List Nat) (f g : Nat → Nat), (r.map fun j => f j + g j).sum = (r.map f).sum + (r.map g).sum := by
    intro r f g
    induction r with
    | nil => rfl
    | cons y r ih => rw [List.map_cons, List.sum_cons, ih, List.map_cons, List.sum_cons, List.map_cons, List.sum_cons]; omega
  rw [e3]
  congr 1
  rw [← countP_range l fun y => decide (x < y)]
  generalize List.range l.length = r
  induction r with
  | nil => rfl
  | cons y r ih =>
    rw [List.map_cons, List.sum_cons, ih, List.countP_cons]
    by_cases h : x < l.getD y 0
    · rw [if_pos h, if_pos (decide_eq_true h)]
      omega
    · rw [if_neg h, if_neg (by simpa using h)]
      omega
theorem rising_conc (l : List Nat) : rising l = conc l := by
  induction l with
  | nil => rfl
  | cons x r ih => rw [rising_cons, ih]; rfl
theorem rising_rev (l : List Nat) : rising l.reverse = disco l := by
  induction l with
  | nil => rfl
  | cons x r ih =>
    rw [List.reverse_cons, rising_app, ih, List.countP_reverse]
    show _ = r.countP _ + disco r
    omega
theorem law_order : Agr (Kp432.step (some (spm m)) (.orderMeasure row)) (m, oOrder row) := by
  show Agr (_, if (Kp432.validList row 1000 && decide (2 ≤ row.length)) = false then _ else (⟨((Kp432.concordant row : Nat) : Int), [((Kp432.discordant row : Nat) : Int)] ++ Kp432.fractionsOf [Kp432.fraction (((Kp432.concordant row : Nat) : Int) - ((Kp432.discordant row : Nat) : Int)) (Kp432.pairsOf row.length).length]⟩ : Kp432.Ans)) _
  unfold oOrder
  rw [valid_eq]
  have e : (isRanked row 1 1000 && decide (2 ≤ row.length)) = isRanked row 2 1000 := by
    unfold isRanked
    rw [Bool.eq_iff_iff]
    cases allLe row 1000 <;> simp <;> omega
  rw [e]
  by_cases h1 : isRanked row 2 1000 = true
  · have hl := rk_len h1
    have hp : 0 < (Kp432.pairsOf row.length).length := by
      rw [prs_len]
      have : 2 * 1 ≤ row.length * (row.length - 1) := Nat.mul_le_mul hl.1 (by omega)
      omega
    rw [if_neg (by rw [h1]; simp), if_pos h1, fraction_F _ hp, conc_eq, disco_eq, ← rising_conc, ← rising_rev, prs_len]
    exact ⟨rfl, rfl⟩
  · rw [if_pos (by simpa using h1), if_neg h1]
    exact ⟨rfl, rfl⟩
end
end Lw

namespace Lw
/-! ### resampling -/
theorem lcmL_pos (l : List Rat) : 0 < lcmL l := (lcm_fold l 1).2.2 (by decide)
theorem den_num (x : Rat) : x * ((x.den : Nat) : Rat) = ((x.num : Int) : Rat) := by
  have h : mkRat x.num x.den = x := Rat.mkRat_self x
  rw [Rat.mkRat_eq_div] at h
  have hd : ((x.den : Nat) : Rat) ≠ 0 := nat_ne x.den_pos
  generalize ((x.den : Nat) : Rat) = d at *
  generalize ((x.num : Int) : Rat) = n at *
  grind
theorem scaled_at (l : List Rat) (i : Nat) : (((scaled l).getD i 0 : Int) : Rat) = l.getD i 0 * ((lcmL l : Nat) : Rat) := by
  unfold scaled
  rw [List.getD_eq_getElem?_getD, List.getD_eq_getElem?_getD, List.getElem?_map]
  cases q : l[i]? with
  | none =>
    show ((0 : Int) : Rat) = (0 : Rat) * _
    rw [Rat.zero_mul]
    rfl
  | some x =>
    show (((x.num * ((lcmL l / x.den : Nat) : Int) : Int)) : Rat) = x * _
    obtain ⟨c, hc⟩ := lcm_dvd (List.mem_of_getElem? q)
    rw [hc, Nat.mul_div_cancel_left _ x.den_pos, Rat.intCast_mul, Rat.natCast_mul]
    rw [← Rat.mul_assoc, den_num]
    rfl
theorem draw_eq (l : List Int) : ∀ (n : Nat) (a : Int) (seed : Nat), drawN l n (a, seed) = (a + ((Kp432.resample l.length n seed).1.map fun i => l.getD i 0).sum, (Kp432.resample l.length n seed).2) := by
  intro n
  induction n with
  | zero => intro a seed; show (a, seed) = (a + 0, seed); rw [Int.add_zero]
  | succ n ih =>
    intro a seed
    show drawN l n (drawStep l (a, seed)) = _
    unfold drawStep
    rw [ih]
    show (_, _) = (a + (List.map _ (_ :: _)).sum, _)
    rw [List.map_cons, List.sum_cons, ← Int.add_assoc]
    rfl
theorem resample_len (n : Nat) : ∀ (c seed : Nat), (Kp432.resample n c seed).1.length = c := by
  intro c
  induction c with
  | zero => intro seed; rfl
  | succ c ih => intro seed; show ((_ :: (Kp432.resample n c (Kp432.nextSeed seed)).1).length) = _; rw [List.length_cons, ih]
theorem cast_sum (l : List Int) : ((l.sum : Int) : Rat) = (l.map fun z => ((z : Int) : Rat)).sum := by
  induction l with
  | nil => rfl
  | cons x r ih => rw [List.sum_cons, Rat.intCast_add, ih, List.map_cons, List.sum_cons]
/-- a sum of the scaled terms as the mean's fraction -/
def gF (l : List Rat) (z : Int) : Kp432.Fraction := F (mkRat z (lcmL l * l.length))
theorem mean_draw (l : List Rat) (hl : 0 < l.length) (ps : List Nat) (hp : ps.length = l.length) : Kp432.mean (ps.map fun i => (l.map F).getD i (Kp432.ofNat 0)) = gF l ((ps.map fun i => (scaled l).getD i 0).sum) := by
  have e : (ps.map fun i => (l.map F).getD i (Kp432.ofNat 0)) = (ps.map fun i => l.getD i 0).map F := by
    rw [List.map_map]
    exact List.map_congr_left fun i _ => getD_mapF l i
  rw [e, mean_F _ (fun z => by
    have := congrArg List.length z
    rw [List.length_map] at this
    simp at this
    rw [this] at hp
    simp at hp
    omega)]
  unfold gF meanR
  rw [Rat.mkRat_eq_div, cast_sum, List.map_map, List.length_map, hp]
  congr 1
  have e2 : (ps.map ((fun z : Int => (z : Rat)) ∘ fun i => (scaled l).getD i 0)) = (ps.map fun i => l.getD i 0).map fun y => ((lcmL l : Nat) : Rat) * y := by
    rw [List.map_map]
    refine List.map_congr_left fun i _ => ?_
    show (((scaled l).getD i 0 : Int) : Rat) = ((lcmL l : Nat) : Rat) * l.getD i 0
    rw [scaled_at, Rat.mul_comm]
  rw [e2, sum_mul, Rat.natCast_mul]
  have a1 := nat_ne hl
  have a2 := nat_ne (lcmL_pos l)
  generalize (ps.map fun i => l.getD i 0).sum = S
  generalize ((lcmL l : Nat) : Rat) = L at *
  generalize ((l.length : Nat) : Rat) = N at *
  grind
def insI (x : Int) : List Int → List Int
  | [] => [x]
  | y :: r => if x < y then x :: y :: r else y :: insI x r
theorem insI_perm (x : Int) : ∀ l : List Int, (insI x l).Perm (x :: l)
  | [] => .refl _
  | y :: r => by
    unfold insI
    split
    · exact .refl _
    · exact ((insI_perm x r).cons y).trans (.swap _ _ _)
theorem insI_sorted (x : Int) : ∀ {l : List Int}, l.Pairwise (· ≤ ·) → (insI x l).Pairwise (· ≤ ·)
  | [], _ => List.pairwise_singleton _ _
  | y :: r, h => by
    have h' := List.pairwise_cons.mp h
    unfold insI
    split
    · rename_i hy
      refine List.pairwise_cons.mpr ⟨fun z hz => ?_, h⟩
      rcases List.mem_cons.mp hz with rfl | hz
      · omega
      · have := h'.1 z hz
        omega
    · rename_i hy
      refine List.pairwise_cons.mpr ⟨fun z hz => ?_, insI_sorted x h'.2⟩
      rcases List.mem_cons.mp ((insI_perm x r).mem_iff.mp hz) with rfl | hz
      · omega
      · exact h'.1 z hz
theorem fold_up (l : List Int) : ∀ acc : List Int, acc.Pairwise (· ≤ ·) → (l.foldl (fun m x => insI x m) acc).Pairwise (· ≤ ·) ∧ (l.foldl (fun m x => insI x m) acc).Perm (acc ++ l) := by
  induction l with
  | nil => intro acc h; exact ⟨h, by rw [List.append_nil]; exact .refl _⟩
  | cons x r ih =>
    intro acc h
    have := ih (insI x acc) (insI_sorted x h)
    refine ⟨this.1, this.2.trans ?_⟩
    refine ((insI_perm x acc).append_right r).trans ?_
    exact (List.perm_middle).symm
theorem less_gF {l : List Rat} (hl : 0 < l.length) (a b : Int) : Kp432.less (gF l a) (gF l b) = decide (a < b) := by
  unfold gF
  have hd : 0 < lcmL l * l.length := Nat.mul_pos (lcmL_pos l) hl
  have hd' : (0 : Rat) < ((lcmL l * l.length : Nat) : Rat) := Rat.natCast_pos.mpr hd
  rw [less_F, decide_eq_decide, Rat.mkRat_eq_div, Rat.mkRat_eq_div, Rat.div_def, Rat.div_def]
  have hi := Rat.inv_pos.mpr hd'
  constructor
  · intro h
    have := Rat.lt_of_mul_lt_mul_right h (Rat.le_of_lt hi)
    exact Rat.intCast_lt_intCast.mp this
  · intro h
    exact Rat.mul_lt_mul_of_pos_right (Rat.intCast_lt_intCast.mpr h) hi
theorem ins_gF {l : List Rat} (hl : 0 < l.length) (x : Int) : ∀ acc : List Int, Kp432.insertUp (gF l x) (acc.map (gF l)) = (insI x acc).map (gF l)
  | [] => rfl
  | y :: r => by
    rw [List.map_cons]
    unfold Kp432.insertUp insI
    rw [less_gF hl]
    by_cases h : x < y
    · rw [if_pos (decide_eq_true h), if_pos h]
      rfl
    · rw [if_neg (by simpa using h), if_neg h, List.map_cons, ins_gF hl x r]
def sumsL (l : List Int) : Nat → Nat → List Int
  | 0, _ => []
  | n + 1, seed => (drawN l l.length (0, seed)).1 :: sumsL l n (drawN l l.length (0, seed)).2
theorem sumsN_eq (l : List Int) : ∀ (n : Nat) (acc : List Int) (seed : Nat), (sumsN l n (acc, seed)).1 = acc ++ sumsL l n seed := by
  intro n
  induction n with
  | zero => intro acc seed; exact (List.append_nil _).symm
  | succ n ih =>
    intro acc seed
    show (sumsN l n (acc ++ [(drawN l l.length (0, seed)).1], (drawN l l.length (0, seed)).2)).1 = _
    rw [ih, List.append_assoc]
    rfl
theorem scaled_len (l : List Rat) : (scaled l).length = l.length := List.length_map _
theorem boot_eq {l : List Rat} (hl : 0 < l.length) : ∀ (n seed : Nat) (acc : List Int), Kp432.bootstrap (l.map F) n seed (acc.map (gF l)) = ((sumsL (scaled l) n seed).foldl (fun m x => insI x m) acc).map (gF l) := by
  intro n
  induction n with
  | zero => intro seed acc; rfl
  | succ n ih =>
    intro seed acc
    show Kp432.bootstrap (l.map F) n (Kp432.resample (l.map F).length (l.map F).length seed).2 (Kp432.insertUp (Kp432.mean ((Kp432.resample (l.map F).length (l.map F).length seed).1.map fun i => (l.map F).getD i (Kp432.ofNat 0))) (acc.map (gF l))) = _
    rw [List.length_map, mean_draw l hl _ (resample_len _ _ _), ins_gF hl, ih]
    show _ = ((sumsL (scaled l) n _).foldl _ (insI _ acc)).map _
    rw [draw_eq, scaled_len, Int.zero_add]
theorem boots_eq {l : List Rat} (hl : 0 < l.length) (n seed i : Nat) : (Kp432.bootstrap (l.map F) n seed []).getD i (Kp432.ofNat 0) = F (mkRat ((sortedSums l n seed).getD i 0) (lcmL l * l.length)) := by
  have h := boot_eq hl n seed []
  have f := fold_up (sumsL (scaled l) n seed) [] .nil
  rw [List.nil_append] at f
  rw [show ([] : List Int).map (gF l) = [] from rfl, sortI_is f.2 f.1] at h
  rw [h]
  unfold sortedSums
  rw [sumsN_eq, List.nil_append, List.getD_eq_getElem?_getD, List.getD_eq_getElem?_getD, List.getElem?_map]
  cases (sortI (sumsL (scaled l) n seed))[i]? with
  | none =>
    show F 0 = F (mkRat 0 _)
    rw [Rat.zero_mkRat]
  | some z => rfl
section
variable {m : M} {k kind limit : Nat}
theorem law_boot (W : Wf m) {rounds seed : Nat} : Agr (Kp432.step (some (spm m)) (.bootstrap k kind limit rounds seed)) (m, oBoot m k kind limit rounds seed) := by
  show Agr (_, if rounds < 1 ∨ 50 < rounds then _ else Kp432.withEstimator (spm m) k kind limit 1 _) _
  unfold oBoot
  rw [we_eq]
  by_cases h0 : (decide (1 ≤ rounds) && decide (rounds ≤ 50)) = true
  · rw [if_neg (by simp at h0; omega), if_pos h0]
    by_cases h : code m [k] kind limit 1 = 0
    · have hc := code_pol h
      rw [if_pos h, if_pos h, terms_eq W hc.1]
      have hl : 0 < (terms m k kind limit).length := by rw [terms_len]; omega
      refine ⟨rfl, ?_⟩
      show 0 :: Kp432.fractionsOf [_, _, _] = _
      rw [boots_eq hl, boots_eq hl, boots_eq hl]
      rfl
    · rw [if_neg h, if_neg h]
      exact ⟨rfl, rfl⟩
  · rw [if_pos (by simp at h0; omega), if_neg h0]
    exact ⟨rfl, rfl⟩
end
end Lw

namespace Lw
/-! ### one call -/
def rawC (c : Cl) : List (List Int) := nz (c.n :: c.xs) :: (if isL c.n = true then [nz c.row] else [])
theorem nz_back (l : List Nat) : (nz l).map Int.toNat = l := by
  unfold nz
  rw [List.map_map]
  have : (Int.toNat ∘ fun (x : Nat) => (x : Int)) = id := by
    funext x
    rfl
  first | (rw [this, List.map_id]) | (simp)
theorem step_of {m : M} {r : Ret} {c : List (List Int)} {x : Kp432.Call} (h : Kp432Neutral.callOf c = some x) (a : Agr (Kp432.step (some (spm m)) x) r) : Kp432Neutral.step (some (spm m)) c = (some (spm r.1), r.2) := by
  unfold Kp432Neutral.step
  rw [h]
  show (_, _) = _
  rw [a.1, a.2]
theorem step_non {c : List (List Int)} {x : Kp432.Call} (h : Kp432Neutral.callOf c = some x) (a : Kp432.step none x = (none, Kp432.single (-11))) : Kp432Neutral.step none c = (none, [-11]) := by
  unfold Kp432Neutral.step
  rw [h]
  show (_, _) = _
  rw [a]
  rfl
theorem create_law (st : Option M) (a b : Nat) : Kp432Neutral.step (st.map spm) [[0, (a : Int), (b : Int)]] = ((oCreate st a b).1.map spm, (oCreate st a b).2) := by
  show ((Kp432.step (st.map spm) (.create a b)).1, (Kp432.step (st.map spm) (.create a b)).2.num :: (Kp432.step (st.map spm) (.create a b)).2.nums) = _
  have e : Kp432.step (st.map spm) (.create a b) = if (decide (1 ≤ a) && decide (a ≤ 6) && decide (1 ≤ b) && decide (b ≤ 5)) = false then (st.map spm, Kp432.single (-22)) else (some (spm (fresh a b)), Kp432.single 0) := by
    have e2 : spm (fresh a b) = ⟨a, b, [], List.replicate 3 (List.replicate a (List.replicate b 1)), List.replicate a (List.replicate b (Kp432.ofNat 0)), List.replicate a 1, List.replicate a (List.replicate b 0)⟩ := by
      unfold spm fresh
      simp only [List.map_replicate]
      rfl
    rw [e2]
    cases st <;> rfl
  rw [e]
  unfold oCreate
  by_cases h : ((decide (1 ≤ a) && decide (a ≤ 6)) && (decide (1 ≤ b) && decide (b ≤ 5))) = true
  · rw [if_neg (by rw [Bool.and_assoc, h]; simp), if_pos h]
    rfl
  · rw [if_pos (by rw [Bool.and_assoc]; simpa using h), if_neg h]
    rfl
theorem law_some {m : M} (W : Wf m) {c : Cl} (ok : OkC c) (h1 : 1 ≤ c.n) : Kp432Neutral.step (some (spm m)) (PyKp432.whole (rawC c)) = (some (spm (onM m c.n c.xs c.row).1), (onM m c.n c.xs c.row).2) := by
  obtain ⟨n, xs, row⟩ := c
  have n28 : n ≤ 28 := ok.n28
  have hl : xs.length = argc n := ok.ok.len
  have h1 : 1 ≤ n := h1
  clear ok
  have back := nz_back row
  match n with
  | 1 => obtain ⟨c, a, r, n, d, rfl⟩ := len5 hl; exact step_of (x := .addEvent c a r n d) rfl law_add
  | 2 => obtain rfl := len0 hl; exact step_of (x := .removeLast) rfl law_remove
  | 3 => obtain ⟨k, c, a, r, rfl⟩ := len4 hl; exact step_of (x := .logEvent k c a r) rfl (law_log W)
  | 4 => obtain ⟨k, c, rfl⟩ := len2 hl; exact step_of (x := .setPolicy k c ((nz row).map Int.toNat)) rfl (by rw [back]; exact law_policy)
  | 5 => obtain ⟨a, b, rfl⟩ := len2 hl; exact step_of (x := .copyPolicy a b) rfl law_copy
  | 6 => obtain ⟨c, rfl⟩ := len1 hl; exact step_of (x := .setModel c ((nz row).map Int.toNat)) rfl (by rw [back]; exact law_model)
  | 7 => obtain rfl := len0 hl; exact step_of (x := .fitModel) rfl law_fit
  | 8 => obtain ⟨c, x, rfl⟩ := len2 hl; exact step_of (x := .setTruth c x ((nz row).map Int.toNat)) rfl (by rw [back]; exact law_truth)
  | 9 => obtain ⟨k, c, a, rfl⟩ := len3 hl; exact step_of (x := .propensity k c a) rfl (law_prop W)
  | 10 => obtain ⟨k, c, a, rfl⟩ := len3 hl; exact step_of (x := .estimate k c a) rfl (law_est W)
  | 11 => obtain ⟨k, rfl⟩ := len1 hl; exact step_of (x := .normalized k) rfl (law_norm W)
  | 12 => obtain ⟨k, rfl⟩ := len1 hl; exact step_of (x := .replay k) rfl (law_replay W)
  | 13 => obtain ⟨k, rfl⟩ := len1 hl; exact step_of (x := .effectiveSize k) rfl (law_eff W)
  | 14 => obtain ⟨k, c, a, rfl⟩ := len3 hl; exact step_of (x := .variance k c a) rfl (law_var W)
  | 15 => obtain ⟨k, c, a, f, rfl⟩ := len4 hl; exact step_of (x := .interval k c a f) rfl (law_int W)
  | 16 => obtain ⟨a, b, k, l, rfl⟩ := len4 hl; exact step_of (x := .compare a b k l) rfl (law_comp W)
  | 17 => obtain ⟨k, c, a, rfl⟩ := len3 hl; exact step_of (x := .byContext k c a) rfl (law_ctx W)
  | 18 => obtain ⟨k, rfl⟩ := len1 hl; exact step_of (x := .greatestWeight k) rfl (law_great W)
  | 19 => obtain ⟨k, rfl⟩ := len1 hl; exact step_of (x := .modelInfo k) rfl law_info
  | 20 => obtain ⟨k, rfl⟩ := len1 hl; exact step_of (x := .trueValue k) rfl (law_true W)
  | 21 => obtain ⟨g, k, a, b, rfl⟩ := len4 hl; exact step_of (x := .expectation g k a b) rfl (law_exp W)
  | 22 => obtain ⟨g, k, rfl⟩ := len2 hl; exact step_of (x := .unsupported g k) rfl (law_uns W)
  | 23 => obtain ⟨k, a, b, r, s, rfl⟩ := len5 hl; exact step_of (x := .bootstrap k a b r s) rfl (law_boot W)
  | 24 => obtain ⟨k, rfl⟩ := len1 hl; exact step_of (x := .precision k ((nz row).map Int.toNat)) rfl (by rw [back]; exact law_prec)
  | 25 => obtain rfl := len0 hl; exact step_of (x := .rankMeasures ((nz row).map Int.toNat)) rfl (by rw [back]; exact law_rank)
  | 26 => obtain rfl := len0 hl; exact step_of (x := .gains ((nz row).map Int.toNat)) rfl (by rw [back]; exact law_gains)
  | 27 => obtain rfl := len0 hl; exact step_of (x := .orderMeasure ((nz row).map Int.toNat)) rfl (by rw [back]; exact law_order)
  | 28 => obtain rfl := len0 hl; exact step_of (x := .status) rfl law_status
  | n + 29 => omega
theorem law_none {c : Cl} (ok : OkC c) (h1 : 1 ≤ c.n) : Kp432Neutral.step none (PyKp432.whole (rawC c)) = (none, [-11]) := by
  obtain ⟨n, xs, row⟩ := c
  have n28 : n ≤ 28 := ok.n28
  have hl : xs.length = argc n := ok.ok.len
  have h1 : 1 ≤ n := h1
  clear ok
  match n with
  | 1 => obtain ⟨c, a, r, n, d, rfl⟩ := len5 hl; exact step_non (x := .addEvent c a r n d) rfl rfl
  | 2 => obtain rfl := len0 hl; exact step_non (x := .removeLast) rfl rfl
  | 3 => obtain ⟨k, c, a, r, rfl⟩ := len4 hl; exact step_non (x := .logEvent k c a r) rfl rfl
  | 4 => obtain ⟨k, c, rfl⟩ := len2 hl; exact step_non (x := .setPolicy k c ((nz row).map Int.toNat)) rfl rfl
  | 5 => obtain ⟨a, b, rfl⟩ := len2 hl; exact step_non (x := .copyPolicy a b) rfl rfl
  | 6 => obtain ⟨c, rfl⟩ := len1 hl; exact step_non (x := .setModel c ((nz row).map Int.toNat)) rfl rfl
  | 7 => obtain rfl := len0 hl; exact step_non (x := .fitModel) rfl rfl
  | 8 => obtain ⟨c, x, rfl⟩ := len2 hl; exact step_non (x := .setTruth c x ((nz row).map Int.toNat)) rfl rfl
  | 9 => obtain ⟨k, c, a, rfl⟩ := len3 hl; exact step_non (x := .propensity k c a) rfl rfl
  | 10 => obtain ⟨k, c, a, rfl⟩ := len3 hl; exact step_non (x := .estimate k c a) rfl rfl
  | 11 => obtain ⟨k, rfl⟩ := len1 hl; exact step_non (x := .normalized k) rfl rfl
  | 12 => obtain ⟨k, rfl⟩ := len1 hl; exact step_non (x := .replay k) rfl rfl
  | 13 => obtain ⟨k, rfl⟩ := len1 hl; exact step_non (x := .effectiveSize k) rfl rfl
  | 14 => obtain ⟨k, c, a, rfl⟩ := len3 hl; exact step_non (x := .variance k c a) rfl rfl
  | 15 => obtain ⟨k, c, a, f, rfl⟩ := len4 hl; exact step_non (x := .interval k c a f) rfl rfl
  | 16 => obtain ⟨a, b, k, l, rfl⟩ := len4 hl; exact step_non (x := .compare a b k l) rfl rfl
  | 17 => obtain ⟨k, c, a, rfl⟩ := len3 hl; exact step_non (x := .byContext k c a) rfl rfl
  | 18 => obtain ⟨k, rfl⟩ := len1 hl; exact step_non (x := .greatestWeight k) rfl rfl
  | 19 => obtain ⟨k, rfl⟩ := len1 hl; exact step_non (x := .modelInfo k) rfl rfl
  | 20 => obtain ⟨k, rfl⟩ := len1 hl; exact step_non (x := .trueValue k) rfl rfl
  | 21 => obtain ⟨g, k, a, b, rfl⟩ := len4 hl; exact step_non (x := .expectation g k a b) rfl rfl
  | 22 => obtain ⟨g, k, rfl⟩ := len2 hl; exact step_non (x := .unsupported g k) rfl rfl
  | 23 => obtain ⟨k, a, b, r, s, rfl⟩ := len5 hl; exact step_non (x := .bootstrap k a b r s) rfl rfl
  | 24 => obtain ⟨k, rfl⟩ := len1 hl; exact step_non (x := .precision k ((nz row).map Int.toNat)) rfl rfl
  | 25 => obtain rfl := len0 hl; exact step_non (x := .rankMeasures ((nz row).map Int.toNat)) rfl rfl
  | 26 => obtain rfl := len0 hl; exact step_non (x := .gains ((nz row).map Int.toNat)) rfl rfl
  | 27 => obtain rfl := len0 hl; exact step_non (x := .orderMeasure ((nz row).map Int.toNat)) rfl rfl
  | 28 => obtain rfl := len0 hl; exact step_non (x := .status) rfl rfl
  | n + 29 => omega
theorem law_one {st : Option M} (hst : ∀ m, st = some m → Wf m) {c : Cl} (ok : OkC c) : Kp432Neutral.step (st.map spm) (PyKp432.whole (rawC c)) = ((onS st c.n c.xs c.row).1.map spm, (onS st c.n c.xs c.row).2) := by
  by_cases h0 : c.n = 0
  · obtain ⟨n, xs, row⟩ := c
    have h0 : n = 0 := h0
    subst h0
    obtain ⟨a, b, h⟩ := len2 ok.ok.len
    have h : xs = [a, b] := h
    subst h
    exact create_law st a b
  · unfold onS
    rw [if_neg h0]
    cases st with
    | none => exact law_none ok (by omega)
    | some m => exact law_some (hst m rfl) ok (by omega)
/-! ### the study's numbers stay well formed -/
theorem wf_onM {m : M} (W : Wf m) {n : Nat} {xs row : List Nat} (ok : Okc n xs row) : Wf (onM m n xs row).1 := by
  have hl := ok.len
  match n with
  | 1 =>
    obtain ⟨c, a, r, n, d, rfl⟩ := len5 hl
    show Wf (oAdd m c a r n d).1
    unfold oAdd
    split
    · rename_i h1
      split
      · exact W
      · rename_i h2
        split
        · exact W
        · have hc := ctx_act h1
          simp only [Bool.or_eq_true, not_or, Bool.not_eq_true', Bool.not_eq_false, decide_eq_true_eq] at h2
          exact wf_add W (ev_add W hc.1 hc.2 (by omega) h2.2) (by omega)
    · exact W
  | 2 =>
    obtain rfl := len0 hl
    show Wf (oRemove m).1
    unfold oRemove
    split
    · exact W
    · exact wf_remove W
  | 3 =>
    obtain ⟨k, c, a, r, rfl⟩ := len4 hl
    show Wf (oLog m k c a r).1
    unfold oLog
    split
    · rename_i h1
      split
      · exact W
      · split
        · exact W
        · split
          · exact W
          · rw [Bool.and_eq_true] at h1
            have hc := ctx_act h1.2
            exact wf_add W (ev_log W (isPol_lt h1.1) hc.1 hc.2 (by omega) (by assumption)) (by omega)
    · exact W
  | 4 =>
    obtain ⟨k, c, rfl⟩ := len2 hl
    show Wf (oPolicy m k c row).1
    unfold oPolicy
    split
    · rename_i h1
      split
      · rw [Bool.and_eq_true] at h1
        exact wf_policy W (isPol_lt h1.1) (of_decide_eq_true h1.2) (by assumption)
      · exact W
    · exact W
  | 5 =>
    obtain ⟨a, b, rfl⟩ := len2 hl
    show Wf (oCopy m a b).1
    unfold oCopy
    split
    · rename_i h1
      rw [Bool.and_eq_true] at h1
      exact wf_copy W (isPol_lt h1.1) (isPol_lt h1.2)
    · exact W
  | 6 =>
    obtain ⟨c, rfl⟩ := len1 hl
    show Wf (oModel m c row).1
    unfold oModel
    split
    · split
      · exact wf_model W (of_decide_eq_true (by assumption)) (by assumption)
      · exact W
    · exact W
  | 7 =>
    obtain rfl := len0 hl
    show Wf { m with mo := (List.range m.nc).map (fitRow m) }
    have go : ∀ i, i ≤ m.nc → Wf { m with mo := ((List.range i).map (fitRow m)) ++ m.mo.drop i } := by
      intro i
      induction i with
      | zero => intro _; exact W
      | succ i ih =>
        intro hi
        have h := wf_fit1 W (ih (by omega)) (show i < m.nc by omega)
        have ml := W.mo.1
        have e : (((List.range i).map (fitRow m)) ++ m.mo.drop i).set i (fitRow m i) = ((List.range (i + 1)).map (fitRow m)) ++ m.mo.drop (i + 1) := by
          rw [List.set_append_right _ _ (by simp), List.length_map, List.length_range, Nat.sub_self, List.range_succ, List.map_append, List.append_assoc, List.drop_eq_getElem_cons (by omega)]
          rfl
        rw [e] at h
        exact h
    have h := go m.nc (Nat.le_refl _)
    rw [List.drop_of_length_le (by rw [W.mo.1]; omega), List.append_nil] at h
    exact h
  | 8 =>
    obtain ⟨c, x, rfl⟩ := len2 hl
    show Wf (oTruth m c x row).1
    unfold oTruth
    split
    · split
      · rename_i h1 h2
        rw [Bool.and_eq_true, Bool.and_eq_true] at h2
        exact wf_truth W (of_decide_eq_true h1) (of_decide_eq_true h2.1.1) (of_decide_eq_true h2.1.2) h2.2
      · exact W
    · exact W
  | 9 => obtain ⟨k, c, a, rfl⟩ := len3 hl; exact W
  | 10 => obtain ⟨k, c, a, rfl⟩ := len3 hl; exact W
  | 11 => obtain ⟨k, rfl⟩ := len1 hl; exact W
  | 12 => obtain ⟨k, rfl⟩ := len1 hl; exact W
  | 13 => obtain ⟨k, rfl⟩ := len1 hl; exact W
  | 14 => obtain ⟨k, c, a, rfl⟩ := len3 hl; exact W
  | 15 => obtain ⟨k, c, a, f, rfl⟩ := len4 hl; exact W
  | 16 => obtain ⟨k, c, a, f, rfl⟩ := len4 hl; exact W
  | 17 => obtain ⟨k, c, a, rfl⟩ := len3 hl; exact W
  | 18 => obtain ⟨k, rfl⟩ := len1 hl; exact W
  | 19 => obtain ⟨k, rfl⟩ := len1 hl; exact W
  | 20 => obtain ⟨k, rfl⟩ := len1 hl; exact W
  | 21 => obtain ⟨k, c, a, f, rfl⟩ := len4 hl; exact W
  | 22 => obtain ⟨k, c, rfl⟩ := len2 hl; exact W
  | 23 => obtain ⟨k, c, a, f, g, rfl⟩ := len5 hl; exact W
  | 24 => obtain ⟨k, rfl⟩ := len1 hl; exact W
  | 25 => obtain rfl := len0 hl; exact W
  | 26 => obtain rfl := len0 hl; exact W
  | 27 => obtain rfl := len0 hl; exact W
  | 28 => obtain rfl := len0 hl; exact W
  | 0 => obtain ⟨a, b, rfl⟩ := len2 hl; exact W
  | n + 29 => obtain rfl := len0 (show xs.length = 0 from hl); exact W
theorem wf_onS {st : Option M} (hst : ∀ m, st = some m → Wf m) {c : Cl} (ok : OkC c) : ∀ m, (onS st c.n c.xs c.row).1 = some m → Wf m := by
  unfold onS
  split
  · split
    · rename_i a b _
      unfold oCreate
      split
      · rename_i h
        intro m hm
        cases hm
        rw [Bool.and_eq_true, Bool.and_eq_true, Bool.and_eq_true] at h
        exact wf_fresh (of_decide_eq_true h.1.1) (of_decide_eq_true h.1.2) (of_decide_eq_true h.2.1) (of_decide_eq_true h.2.2)
      · exact hst
    · exact hst
  · split
    · intro m hm
      cases hm
    · rename_i m'
      intro m hm
      cases hm
      exact wf_onM (hst m' rfl) ok.ok
theorem run_law : ∀ (cs : List Cl) (st : Option M) (out : List Int), (∀ m, st = some m → Wf m) → (∀ c ∈ cs, OkC c) → (cs.foldl stepC (st, out)).2 = out ++ PyFlat.told (PyFlat.played Kp432Neutral.step (st.map spm) (cs.map fun c => PyKp432.whole (rawC c))) := by
  intro cs
  induction cs with
  | nil => intro st out _ _; exact (List.append_nil _).symm
  | cons c r ih =>
    intro st out hst ok
    have okc := ok c List.mem_cons_self
    rw [List.foldl_cons]
    show (r.foldl stepC ((onS st c.n c.xs c.row).1, out ++ (((onS st c.n c.xs c.row).2.length : Int) :: (onS st c.n c.xs c.row).2))).2 = _
    rw [ih _ _ (wf_onS hst okc) fun d hd => ok d (List.mem_cons_of_mem _ hd), List.map_cons]
    show _ = out ++ PyFlat.told ((Kp432Neutral.step (st.map spm) (PyKp432.whole (rawC c))).2 :: PyFlat.played Kp432Neutral.step (Kp432Neutral.step (st.map spm) (PyKp432.whole (rawC c))).1 _)
    rw [law_one hst okc, List.append_assoc]
    rfl
end Lw

namespace Lw
/-! ### the calls as they are read -/
theorem shape_in {p : Int} (h : PyKp432.shape p ≠ none) : 0 ≤ p ∧ p ≤ 28 := by
  refine Classical.byContradiction fun z => h ?_
  unfold PyKp432.shape
  repeat rw [if_neg (by omega)]
theorem shape_at : ∀ q ≤ 28, PyKp432.shape ((q : Nat) : Int) = some (argc q, if isL q = true then 1 else 0) := by decide
theorem bound_at : ∀ q ≤ 28, PyKp432.bound ((q : Nat) : Int) = (List.replicate (argc q) (0, 4294967295), if isL q = true then [(0, 4294967295, 0, 12)] else []) := fun q h => match q, h with
  | 0, _ => rfl
  | 1, _ => rfl
  | 2, _ => rfl
  | 3, _ => rfl
  | 4, _ => rfl
  | 5, _ => rfl
  | 6, _ => rfl
  | 7, _ => rfl
  | 8, _ => rfl
  | 9, _ => rfl
  | 10, _ => rfl
  | 11, _ => rfl
  | 12, _ => rfl
  | 13, _ => rfl
  | 14, _ => rfl
  | 15, _ => rfl
  | 16, _ => rfl
  | 17, _ => rfl
  | 18, _ => rfl
  | 19, _ => rfl
  | 20, _ => rfl
  | 21, _ => rfl
  | 22, _ => rfl
  | 23, _ => rfl
  | 24, _ => rfl
  | 25, _ => rfl
  | 26, _ => rfl
  | 27, _ => rfl
  | 28, _ => rfl
  | n + 29, h => absurd h (by omega)
theorem within_iff {lo hi z : Int} : PyInside.within lo hi z = true ↔ lo ≤ z ∧ z ≤ hi := by
  unfold PyInside.within
  simp
theorem each_all : ∀ (n : Nat) (ys : List Int), ys.length = n → PyInside.each (List.replicate n (0, 4294967295)) ys = true → ∀ y ∈ ys, 0 ≤ y ∧ y ≤ 4294967295 := by
  intro n
  induction n with
  | zero =>
    intro ys hl _ y hy
    rw [List.length_eq_zero_iff.mp hl] at hy
    cases hy
  | succ n ih =>
    intro ys hl h y hy
    match ys, hl with
    | x :: r, hl =>
      rw [List.replicate_succ] at h
      have h : (PyInside.within 0 4294967295 x && PyInside.each (List.replicate n (0, 4294967295)) r) = true := h
      rw [Bool.and_eq_true] at h
      rcases List.mem_cons.mp hy with rfl | hy
      · exact within_iff.mp h.1
      · exact ih r (by simpa using hl) h.2 y hy
theorem nz_of {ys : List Int} (h : ∀ y ∈ ys, 0 ≤ y ∧ y ≤ 4294967295) : nz (ys.map Int.toNat) = ys ∧ ∀ x ∈ ys.map Int.toNat, x ≤ 4294967295 := by
  constructor
  · unfold nz
    rw [List.map_map]
    conv => rhs; rw [← List.map_id ys]
    refine List.map_congr_left fun y hy => ?_
    show ((y.toNat : Nat) : Int) = y
    have := (h y hy).1
    omega
  · intro x hx
    obtain ⟨y, hy, rfl⟩ := List.mem_map.mp hx
    have := h y hy
    omega
theorem call_dec {l t : List Int} {raw : List (List Int)} (h : PyFlat.call PyKp432.shape l = some (raw, t)) (hb : PyInside.call PyKp432.bound raw = true) : ∃ c : Cl, OkC c ∧ raw = rawC c ∧ l = nz c.flat ++ t := by
  cases l with
  | nil => cases h
  | cons p r =>
    have h : (match PyKp432.shape p with
      | none => none
      | some (n, k) => if r.length < n then none else match PyFlat.rows k (r.drop n) with
        | none => none
        | some (xs, t) => some ((p :: r.take n) :: xs, t)) = some (raw, t) := h
    have hs : PyKp432.shape p ≠ none := fun z => by
      rw [z] at h
      cases h
    have hp := shape_in hs
    obtain ⟨q, rfl⟩ : ∃ q : Nat, p = (q : Int) := ⟨p.toNat, by omega⟩
    have hq : q ≤ 28 := by omega
    rw [shape_at q hq] at h
    have h : (if r.length < argc q then none else match PyFlat.rows (if isL q = true then 1 else 0) (r.drop (argc q)) with
      | none => none
      | some (xs, t) => some (((q : Int) :: r.take (argc q)) :: xs, t)) = some (raw, t) := h
    by_cases hr : r.length < argc q
    · rw [if_pos hr] at h
      cases h
    · rw [if_neg hr] at h
      have tl : (r.take (argc q)).length = argc q := by rw [List.length_take]; omega
      have split : r = r.take (argc q) ++ r.drop (argc q) := (List.take_append_drop _ _).symm
      by_cases hL : isL q = true
      · rw [if_pos hL] at h
        cases hd : r.drop (argc q) with
        | nil =>
          rw [hd] at h
          cases h
        | cons n s =>
          rw [hd] at h
          have h : (match (match (if 0 ≤ n ∧ n.toNat ≤ s.length then some (s.take n.toNat, s.drop n.toNat) else none : Option (List Int × List Int)) with
              | none => none
              | some (x, s) => some ([x], s) : Option (List (List Int) × List Int)) with
            | none => none
            | some (xs, t) => some (((q : Int) :: r.take (argc q)) :: xs, t)) = some (raw, t) := h
          by_cases hn : 0 ≤ n ∧ n.toNat ≤ s.length
          · rw [if_pos hn] at h
            have h : some (((q : Int) :: r.take (argc q)) :: [s.take n.toNat], s.drop n.toNat) = some (raw, t) := h
            injection h with h
            injection h with h1 h2
            subst h1
            have hb : (PyInside.each (PyKp432.bound (q : Int)).1 (r.take (argc q)) && PyInside.lists (PyKp432.bound (q : Int)).2 [s.take n.toNat]) = true := hb
            rw [bound_at q hq, if_pos hL, Bool.and_eq_true] at hb
            have b1 := each_all _ _ tl hb.1
            have b2 : (decide (0 ≤ (s.take n.toNat).length) && decide ((s.take n.toNat).length ≤ 12) && (s.take n.toNat).all (PyInside.within 0 4294967295) && PyInside.lists [] []) = true := hb.2
            rw [Bool.and_eq_true, Bool.and_eq_true, Bool.and_eq_true] at b2
            have b3 : ∀ y ∈ s.take n.toNat, 0 ≤ y ∧ y ≤ 4294967295 := fun y hy => within_iff.mp (List.all_eq_true.mp b2.1.2 y hy)
            have n1 := nz_of b1
            have n2 := nz_of b3
            refine ⟨⟨q, (r.take (argc q)).map Int.toNat, (s.take n.toNat).map Int.toNat⟩, ⟨hq, ⟨by rw [List.length_map]; exact tl, n1.2, by rw [List.length_map]; exact of_decide_eq_true b2.1.1.2, n2.2⟩, fun z => by rw [hL] at z; cases z⟩, ?_, ?_⟩
            · unfold rawC
              rw [if_pos hL]
              show _ = ((q : Int) :: nz ((r.take (argc q)).map Int.toNat)) :: [nz ((s.take n.toNat).map Int.toNat)]
              rw [n1.1, n2.1]
            · unfold Cl.flat Cl.tail
              rw [if_pos hL]
              show (q : Int) :: r = (q : Int) :: (nz ((r.take (argc q)).map Int.toNat ++ (((s.take n.toNat).map Int.toNat).length :: (s.take n.toNat).map Int.toNat)) ++ t)
              have na : ∀ a b : List Nat, nz (a ++ b) = nz a ++ nz b := fun a b => List.map_append
              rw [na, n1.1]
              show _ = _ :: (r.take (argc q) ++ ((((s.take n.toNat).map Int.toNat).length : Int) :: nz ((s.take n.toNat).map Int.toNat)) ++ t)
              rw [n2.1, List.length_map, List.length_take, Nat.min_eq_left hn.2, ← h2]
              conv => lhs; rw [split, hd]
              rw [List.append_assoc]
              show _ :: (_ ++ n :: s) = _ :: (_ ++ (((n.toNat : Nat) : Int) :: (s.take n.toNat ++ s.drop n.toNat)))
              rw [List.take_append_drop, show ((n.toNat : Nat) : Int) = n by omega]
          · rw [if_neg hn] at h
            cases h
      · rw [if_neg hL] at h
        have h : some (((q : Int) :: r.take (argc q)) :: [], r.drop (argc q)) = some (raw, t) := h
        injection h with h
        injection h with h1 h2
        subst h1
        have hb : (PyInside.each (PyKp432.bound (q : Int)).1 (r.take (argc q)) && PyInside.lists (PyKp432.bound (q : Int)).2 []) = true := hb
        rw [bound_at q hq, Bool.and_eq_true] at hb
        have n1 := nz_of (each_all _ _ tl hb.1)
        refine ⟨⟨q, (r.take (argc q)).map Int.toNat, []⟩, ⟨hq, ⟨by rw [List.length_map]; exact tl, n1.2, Nat.zero_le _, fun x hx => by cases hx⟩, fun _ => rfl⟩, ?_, ?_⟩
        · unfold rawC
          rw [if_neg hL]
          show _ = ((q : Int) :: nz ((r.take (argc q)).map Int.toNat)) :: []
          rw [n1.1]
        · unfold Cl.flat Cl.tail
          rw [if_neg hL]
          show (q : Int) :: r = (q : Int) :: (nz ((r.take (argc q)).map Int.toNat ++ []) ++ t)
          rw [List.append_nil, n1.1, ← h2, List.take_append_drop]
theorem calls_dec : ∀ (f : Nat) (l : List Int) (raw : List (List (List Int))), PyFlat.calls PyKp432.shape f l = some raw → PyInside.calls PyKp432.bound raw = true → ∃ cs : List Cl, (∀ c ∈ cs, OkC c) ∧ raw = cs.map rawC ∧ l = nz (cs.flatMap Cl.flat) := by
  intro f
  induction f with
  | zero =>
    intro l raw h hb
    cases l with
    | nil =>
      cases h
      exact ⟨[], (fun c hc => by cases hc), rfl, rfl⟩
    | cons p r => cases h
  | succ f ih =>
    intro l raw h hb
    cases l with
    | nil =>
      cases h
      exact ⟨[], (fun c hc => by cases hc), rfl, rfl⟩
    | cons p r =>
      unfold PyFlat.calls at h
      cases hc : PyFlat.call PyKp432.shape (p :: r) with
      | none =>
        rw [hc] at h
        cases h
      | some y =>
        obtain ⟨c, t⟩ := y
        rw [hc] at h
        cases hr : PyFlat.calls PyKp432.shape f t with
        | none =>
          have h : (match PyFlat.calls PyKp432.shape f t with
            | none => none
            | some cs => some (c :: cs)) = some raw := h
          rw [hr] at h
          cases h
        | some cs =>
          have h : (match PyFlat.calls PyKp432.shape f t with
            | none => none
            | some cs => some (c :: cs)) = some raw := h
          rw [hr] at h
          have h : some (c :: cs) = some raw := h
          injection h with h
          subst h
          have hb : (PyInside.call PyKp432.bound c && cs.all (PyInside.call PyKp432.bound)) = true := hb
          rw [Bool.and_eq_true] at hb
          obtain ⟨c', ok, e1, e2⟩ := call_dec hc hb.1
          obtain ⟨cs', oks, e3, e4⟩ := ih t cs hr hb.2
          refine ⟨c' :: cs', fun d hd => ?_, ?_, ?_⟩
          · rcases List.mem_cons.mp hd with rfl | hd
            · exact ok
            · exact oks d hd
          · rw [e1, e3]
            rfl
          · rw [e2, e4, List.flatMap_cons]
            exact (List.map_append).symm
/-- the plain law -/
theorem plain {l : List Int} (h : PyKp432.answers_asked l = true) : ∃ cs : List Cl, l = nz (cs.flatMap Cl.flat) ∧ (∀ c ∈ cs, OkC c) ∧ cs.length ≤ 60 ∧ (runC cs).2 = PyKp432.answers l := by
  unfold PyKp432.answers_asked at h
  cases hc : PyFlat.calls PyKp432.shape l.length l with
  | none =>
    rw [hc] at h
    cases h
  | some raw =>
    rw [hc] at h
    have h : (!raw.isEmpty && PyFlat.atMost 60 raw && PyInside.calls PyKp432.bound raw && Kp432Neutral.asked (raw.map PyKp432.whole) && PyFlat.short 10000000 (PyKp432.answers l)) = true := h
    rw [Bool.and_eq_true, Bool.and_eq_true, Bool.and_eq_true, Bool.and_eq_true] at h
    obtain ⟨cs, ok, e1, e2⟩ := calls_dec _ _ _ hc h.1.1.2
    refine ⟨cs, e2, ok, ?_, ?_⟩
    · have := of_decide_eq_true h.1.1.1.2
      rw [e1, List.length_map] at this
      exact this
    · unfold runC PyKp432.answers PyKp432.calls
      rw [run_law cs none [] (fun m hm => by cases hm) ok, hc, List.nil_append]
      show PyFlat.told (PyFlat.played Kp432Neutral.step none _) = PyFlat.told (PyFlat.played Kp432Neutral.step none (raw.map PyKp432.whole))
      rw [e1, List.map_map]
      rfl
end Lw
open PySem PySem.W PyProof.Rows
set_option maxRecDepth 100000 in
set_option maxHeartbeats 80000000 in
theorem PySem.Challenge.cw_logworth_s01_answers_holds : PySem.Challenge.rw_logworth_s01_answers.Holds := by
  refine Lw.gp.2 (fun _ => ?_)
  delta Lw.gp
  dsimp only
  k_fillS
  refine L2.walk_specK (r := PySem.Challenge.rw_logworth_s01_answers) (k := 11) (CX := L2.CX0) (ps := ["calls"]) (sp := fun K => Lw.sp_answers K 0) (by decide +kernel) rfl rfl ⟨rfl, by decide, by decide⟩ (fun w h Y => PySem.W.kIn_of Y) ?F ?S (fun _ _ _ _ z => z)
  case F =>
    intro w mg fa h Y KX G hmg
    obtain ⟨fd, hF, hb⟩ := Lw.fun_end KX G hmg ⟨_, _, _, _, _, _, _, _, _, _, by k_is, by k_is, by k_is, by k_is⟩
    refine ⟨fd, hb, fun base _ _ => ?_⟩
    refine' Lw.all_ok ?T ?g_common_divisor ?g_quotient ?g_whole ?g_plus ?g_minus ?g_times ?g_over ?g_square ?g_is_less ?g_smaller ?g_total ?g_mean ?g_greatest ?g_common_below ?g_numbers_of ?g_is_between ?g_are_between ?g_is_policy ?g_is_propensity ?g_are_weights ?g_are_rewards ?g_is_estimator ?g_is_ranked ?g_equal_rows ?g___init__ ?g_has_context ?g_has_action ?g_note_event ?g_forget_last ?g_put_weights ?g_copy_policy ?g_put_model ?g_put_truth ?g_probability ?g_preferred ?g_importance ?g_importances ?g_direct_value ?g_term ?g_terms ?g_variance_of_mean ?g_normalized_parts ?g_effective_parts ?g_rewards_of ?g_rewards_of_action ?g_fitted ?g_fitted_row ?g_context_probability ?g_expected_reward ?g_true_value_of ?g_possible_events ?g_moments ?g_unsupported_pairs ?g_next_seed ?g_resampled_sum ?g_resampled_sums ?g_resampled_estimates ?g_is_place ?g_add_event ?g_remove_last ?g_log_event ?g_set_policy ?g_set_copy ?g_set_model ?g_fit_model ?g_set_truth ?g_is_change ?g_changed ?g_precision_at ?g_average_precision ?g_reciprocal_rank ?g_discounted_gain ?g_ideal_gain ?g_rising_pairs ?g_falling_pairs ?g_pairs_of ?g_true_value ?g_expectation ?g_unsupported ?g_precision ?g_rank_measures ?g_gains_measured ?g_order_measure ?g_looked_at ?g_code_of ?g_propensity_asked ?g_estimate ?g_normalized ?g_replay ?g_effective_size ?g_variance ?g_interval ?g_compare ?g_by_context ?g_greatest_weight ?g_model_info ?g_bootstrap ?g_status ?g_is_question ?g_answered ?g_read_row ?g_read_call ?g_read_calls ?g_created ?g_answer_of ?g_answers ?m_add_event ?m_remove_last ?m_log_event ?m_set_policy ?m_set_copy ?m_set_model ?m_fit_model ?m_set_truth ?D_d1 ?nd_d1 ?m_propensity_asked ?m_estimate ?m_normalized ?m_replay ?m_effective_size ?m_variance ?m_interval ?m_compare ?m_by_context ?m_greatest_weight ?m_model_info ?m_bootstrap ?m_status ?D_d2 ?nd_d2 ?m_true_value ?m_expectation ?m_unsupported ?m_precision ?m_rank_measures ?m_gains_measured ?m_order_measure ?D_d3 ?nd_d3
    (case T => exact ⟨PySem.W.mg_none_of KX G (by k_is), PySem.W.mg_none_of KX G (by k_is), PySem.W.mg_none_of KX G (by k_is), PySem.W.mg_none_of KX G (by k_is), PySem.W.mg_none_of KX G (by k_is), PySem.W.mg_none_of KX G (by k_is), PySem.W.mg_none_of KX G (by k_is), PySem.W.mg_of KX G (by k_is), ⟨_, _, _, by k_is, rfl, rfl, by decide, by repeat (first | exact .nil | refine .cons ⟨_, rfl⟩ ?_)⟩, ⟨_, PySem.W.mg_of KX G (by k_is)⟩, ⟨_, PySem.W.mg_of KX G (by k_is)⟩, ⟨_, PySem.W.mg_of KX G (by k_is)⟩, ⟨_, PySem.W.mg_of KX G (by k_is)⟩, ⟨_, PySem.W.mg_of KX G (by k_is)⟩, ⟨_, PySem.W.mg_of KX G (by k_is)⟩, ⟨_, PySem.W.mg_of KX G (by k_is)⟩, ⟨_, PySem.W.mg_of KX G (by k_is)⟩, ⟨_, PySem.W.mg_of KX G (by k_is)⟩, ⟨_, PySem.W.mg_of KX G (by k_is)⟩, ⟨_, PySem.W.mg_of KX G (by k_is)⟩, ⟨_, PySem.W.mg_of KX G (by k_is)⟩, ⟨_, PySem.W.mg_of KX G (by k_is)⟩, ⟨_, PySem.W.mg_of KX G (by k_is)⟩, ⟨_, PySem.W.mg_of KX G (by k_is)⟩, ⟨_, PySem.W.mg_of KX G (by k_is)⟩, ⟨_, PySem.W.mg_of KX G (by k_is)⟩, ⟨_, PySem.W.mg_of KX G (by k_is)⟩, ⟨_, PySem.W.mg_of KX G (by k_is)⟩, ⟨_, PySem.W.mg_of KX G (by k_is)⟩, ⟨_, PySem.W.mg_of KX G (by k_is)⟩, ⟨_, PySem.W.mg_of KX G (by k_is)⟩, ⟨_, PySem.W.mg_of KX G (by k_is)⟩, ⟨_, PySem.W.mg_of KX G (by k_is)⟩, ⟨_, PySem.W.mg_of KX G (by k_is)⟩, ⟨_, PySem.W.mg_of KX G (by k_is)⟩, ⟨_, PySem.W.mg_of KX G (by k_is)⟩, ⟨_, PySem.W.mg_of KX G (by k_is)⟩, PySem.W.mg_of KX G (by k_is), ⟨by k_is, by k_is, by k_is, by k_is⟩, (by unfold L2.NoAttr; k_is), (by unfold L2.NoAttr; k_is), (by unfold L2.NoAttr; k_is), (by unfold L2.NoAttr; k_is), (by unfold L2.NoAttr; k_is), (by unfold L2.NoAttr; k_is), (by unfold L2.NoAttr; k_is), PySem.W.mg_of KX G (by k_is), ⟨_, _, _, by k_is, rfl, rfl, by decide, by repeat (first | exact .nil | refine .cons ⟨_, rfl⟩ ?_)⟩, PySem.W.mg_of KX G (by k_is), ⟨_, _, _, by k_is, rfl, rfl, by decide, by repeat (first | exact .nil | refine .cons ⟨_, rfl⟩ ?_)⟩, PySem.W.mg_of KX G (by k_is), PySem.W.mg_of KX G (by k_is), PySem.W.mg_of KX G (by k_is)⟩)
    (case g_common_divisor => exact Lw.has_of KX G ⟨_, _, _, _, _, _, _, _, _, _, by k_is, by k_is, by k_is, by k_is⟩ (fun fd F => F.binds (ps := ["one", "other"]) fun _ _ _ _ _ _ us hl => match us, hl with | [_, _], _ => rfl))
    (case g_quotient => exact Lw.has_of KX G ⟨_, _, _, _, _, _, _, _, _, _, by k_is, by k_is, by k_is, by k_is⟩ (fun fd F => F.binds (ps := ["above", "below"]) fun _ _ _ _ _ _ us hl => match us, hl with | [_, _], _ => rfl))
    (case g_whole => exact Lw.has_of KX G ⟨_, _, _, _, _, _, _, _, _, _, by k_is, by k_is, by k_is, by k_is⟩ (fun fd F => F.binds (ps := ["number"]) fun _ _ _ _ _ _ us hl => match us, hl with | [_], _ => rfl))
    (case g_plus => exact Lw.has_of KX G ⟨_, _, _, _, _, _, _, _, _, _, by k_is, by k_is, by k_is, by k_is⟩ (fun fd F => F.binds (ps := ["one", "other"]) fun _ _ _ _ _ _ us hl => match us, hl with | [_, _], _ => rfl))
    (case g_minus => exact Lw.has_of KX G ⟨_, _, _, _, _, _, _, _, _, _, by k_is, by k_is, by k_is, by k_is⟩ (fun fd F => F.binds (ps := ["one", "other"]) fun _ _ _ _ _ _ us hl => match us, hl with | [_, _], _ => rfl))
    (case g_times => exact Lw.has_of KX G ⟨_, _, _, _, _, _, _, _, _, _, by k_is, by k_is, by k_is, by k_is⟩ (fun fd F => F.binds (ps := ["one", "other"]) fun _ _ _ _ _ _ us hl => match us, hl with | [_, _], _ => rfl))
    (case g_over => exact Lw.has_of KX G ⟨_, _, _, _, _, _, _, _, _, _, by k_is, by k_is, by k_is, by k_is⟩ (fun fd F => F.binds (ps := ["one", "other"]) fun _ _ _ _ _ _ us hl => match us, hl with | [_, _], _ => rfl))
    (case g_square => exact Lw.has_of KX G ⟨_, _, _, _, _, _, _, _, _, _, by k_is, by k_is, by k_is, by k_is⟩ (fun fd F => F.binds (ps := ["one"]) fun _ _ _ _ _ _ us hl => match us, hl with | [_], _ => rfl))
    (case g_is_less => exact Lw.has_of KX G ⟨_, _, _, _, _, _, _, _, _, _, by k_is, by k_is, by k_is, by k_is⟩ (fun fd F => F.binds (ps := ["one", "other"]) fun _ _ _ _ _ _ us hl => match us, hl with | [_, _], _ => rfl))
    (case g_smaller => exact Lw.has_of KX G ⟨_, _, _, _, _, _, _, _, _, _, by k_is, by k_is, by k_is, by k_is⟩ (fun fd F => F.binds (ps := ["one", "other"]) fun _ _ _ _ _ _ us hl => match us, hl with | [_, _], _ => rfl))
    (case g_total => exact Lw.has_of KX G ⟨_, _, _, _, _, _, _, _, _, _, by k_is, by k_is, by k_is, by k_is⟩ (fun fd F => F.binds (ps := ["quotients"]) fun _ _ _ _ _ _ us hl => match us, hl with | [_], _ => rfl))
    (case g_mean => exact Lw.has_of KX G ⟨_, _, _, _, _, _, _, _, _, _, by k_is, by k_is, by k_is, by k_is⟩ (fun fd F => F.binds (ps := ["quotients"]) fun _ _ _ _ _ _ us hl => match us, hl with | [_], _ => rfl))
    (case g_greatest => exact Lw.has_of KX G ⟨_, _, _, _, _, _, _, _, _, _, by k_is, by k_is, by k_is, by k_is⟩ (fun fd F => F.binds (ps := ["quotients"]) fun _ _ _ _ _ _ us hl => match us, hl with | [_], _ => rfl))
    (case g_common_below => exact Lw.has_of KX G ⟨_, _, _, _, _, _, _, _, _, _, by k_is, by k_is, by k_is, by k_is⟩ (fun fd F => F.binds (ps := ["quotients"]) fun _ _ _ _ _ _ us hl => match us, hl with | [_], _ => rfl))
    (case g_numbers_of => exact Lw.has_of KX G ⟨_, _, _, _, _, _, _, _, _, _, by k_is, by k_is, by k_is, by k_is⟩ (fun fd F => F.binds (ps := ["quotients"]) fun _ _ _ _ _ _ us hl => match us, hl with | [_], _ => rfl))
    (case g_is_between => exact Lw.has_of KX G ⟨_, _, _, _, _, _, _, _, _, _, by k_is, by k_is, by k_is, by k_is⟩ (fun fd F => F.binds (ps := ["number", "least", "most"]) fun _ _ _ _ _ _ us hl => match us, hl with | [_, _, _], _ => rfl))
    (case g_are_between => exact Lw.has_of KX G ⟨_, _, _, _, _, _, _, _, _, _, by k_is, by k_is, by k_is, by k_is⟩ (fun fd F => F.binds (ps := ["numbers", "least", "most"]) fun _ _ _ _ _ _ us hl => match us, hl with | [_, _, _], _ => rfl))
    (case g_is_policy => exact Lw.has_of KX G ⟨_, _, _, _, _, _, _, _, _, _, by k_is, by k_is, by k_is, by k_is⟩ (fun fd F => F.binds (ps := ["policy"]) fun _ _ _ _ _ _ us hl => match us, hl with | [_], _ => rfl))
    (case g_is_propensity => exact Lw.has_of KX G ⟨_, _, _, _, _, _, _, _, _, _, by k_is, by k_is, by k_is, by k_is⟩ (fun fd F => F.binds (ps := ["above", "below"]) fun _ _ _ _ _ _ us hl => match us, hl with | [_, _], _ => rfl))
    (case g_are_weights => exact Lw.has_of KX G ⟨_, _, _, _, _, _, _, _, _, _, by k_is, by k_is, by k_is, by k_is⟩ (fun fd F => F.binds (ps := ["weights", "actions"]) fun _ _ _ _ _ _ us hl => match us, hl with | [_, _], _ => rfl))
    (case g_are_rewards => exact Lw.has_of KX G ⟨_, _, _, _, _, _, _, _, _, _, by k_is, by k_is, by k_is, by k_is⟩ (fun fd F => F.binds (ps := ["rewards", "actions"]) fun _ _ _ _ _ _ us hl => match us, hl with | [_, _], _ => rfl))
    (case g_is_estimator => exact Lw.has_of KX G ⟨_, _, _, _, _, _, _, _, _, _, by k_is, by k_is, by k_is, by k_is⟩ (fun fd F => F.binds (ps := ["kind", "limit"]) fun _ _ _ _ _ _ us hl => match us, hl with | [_, _], _ => rfl))
    (case g_is_ranked => exact Lw.has_of KX G ⟨_, _, _, _, _, _, _, _, _, _, by k_is, by k_is, by k_is, by k_is⟩ (fun fd F => F.binds (ps := ["row", "least_ranks", "most_number"]) fun _ _ _ _ _ _ us hl => match us, hl with | [_, _, _], _ => rfl))
    (case g_equal_rows => exact Lw.has_of KX G ⟨_, _, _, _, _, _, _, _, _, _, by k_is, by k_is, by k_is, by k_is⟩ (fun fd F => F.binds (ps := ["many", "row"]) fun _ _ _ _ _ _ us hl => match us, hl with | [_, _], _ => rfl))
    (case g___init__ => exact ⟨Lw.hasM_of ⟨_, _, _, _, _, _, _, _, _, _, by k_is, by k_is, by k_is, by k_is, by k_is⟩ (fun fd F => F.binds (ps := ["self", "contexts", "actions"]) fun _ _ _ _ _ _ us hl => match us, hl with | [_, _, _], _ => rfl), by k_is, by k_is⟩)
    (case g_has_context => exact Lw.hasM_of (q := "Study.has_context") ⟨_, _, _, _, _, _, _, _, _, _, by k_is, by k_is, by k_is, by k_is, by k_is⟩ (fun fd F => F.binds (ps := ["self", "context"]) fun _ _ _ _ _ _ us hl => match us, hl with | [_, _], _ => rfl))
    (case g_has_action => exact Lw.hasM_of (q := "Study.has_action") ⟨_, _, _, _, _, _, _, _, _, _, by k_is, by k_is, by k_is, by k_is, by k_is⟩ (fun fd F => F.binds (ps := ["self", "action"]) fun _ _ _ _ _ _ us hl => match us, hl with | [_, _], _ => rfl))
    (case g_note_event => exact Lw.hasM_of (q := "Study.note_event") ⟨_, _, _, _, _, _, _, _, _, _, by k_is, by k_is, by k_is, by k_is, by k_is⟩ (fun fd F => F.binds (ps := ["self", "event"]) fun _ _ _ _ _ _ us hl => match us, hl with | [_, _], _ => rfl))
    (case g_forget_last => exact Lw.hasM_of (q := "Study.forget_last") ⟨_, _, _, _, _, _, _, _, _, _, by k_is, by k_is, by k_is, by k_is, by k_is⟩ (fun fd F => F.binds (ps := ["self"]) fun _ _ _ _ _ _ us hl => match us, hl with | [_], _ => rfl))
    (case g_put_weights => exact Lw.hasM_of (q := "Study.put_weights") ⟨_, _, _, _, _, _, _, _, _, _, by k_is, by k_is, by k_is, by k_is, by k_is⟩ (fun fd F => F.binds (ps := ["self", "policy", "context", "weights"]) fun _ _ _ _ _ _ us hl => match us, hl with | [_, _, _, _], _ => rfl))
    (case g_copy_policy => exact Lw.hasM_of (q := "Study.copy_policy") ⟨_, _, _, _, _, _, _, _, _, _, by k_is, by k_is, by k_is, by k_is, by k_is⟩ (fun fd F => F.binds (ps := ["self", "source", "target"]) fun _ _ _ _ _ _ us hl => match us, hl with | [_, _, _], _ => rfl))
    (case g_put_model => exact Lw.hasM_of (q := "Study.put_model") ⟨_, _, _, _, _, _, _, _, _, _, by k_is, by k_is, by k_is, by k_is, by k_is⟩ (fun fd F => F.binds (ps := ["self", "context", "estimates"]) fun _ _ _ _ _ _ us hl => match us, hl with | [_, _, _], _ => rfl))
    (case g_put_truth => exact Lw.hasM_of (q := "Study.put_truth") ⟨_, _, _, _, _, _, _, _, _, _, by k_is, by k_is, by k_is, by k_is, by k_is⟩ (fun fd F => F.binds (ps := ["self", "context", "weight", "rewards"]) fun _ _ _ _ _ _ us hl => match us, hl with | [_, _, _, _], _ => rfl))
    (case g_probability => exact Lw.has_of KX G ⟨_, _, _, _, _, _, _, _, _, _, by k_is, by k_is, by k_is, by k_is⟩ (fun fd F => F.binds (ps := ["study", "policy", "context", "action"]) fun _ _ _ _ _ _ us hl => match us, hl with | [_, _, _, _], _ => rfl))
    (case g_preferred => exact Lw.has_of KX G ⟨_, _, _, _, _, _, _, _, _, _, by k_is, by k_is, by k_is, by k_is⟩ (fun fd F => F.binds (ps := ["study", "policy", "context"]) fun _ _ _ _ _ _ us hl => match us, hl with | [_, _, _], _ => rfl))
    (case g_importance => exact Lw.has_of KX G ⟨_, _, _, _, _, _, _, _, _, _, by k_is, by k_is, by k_is, by k_is⟩ (fun fd F => F.binds (ps := ["study", "policy", "event"]) fun _ _ _ _ _ _ us hl => match us, hl with | [_, _, _], _ => rfl))
    (case g_importances => exact Lw.has_of KX G ⟨_, _, _, _, _, _, _, _, _, _, by k_is, by k_is, by k_is, by k_is⟩ (fun fd F => F.binds (ps := ["study", "policy"]) fun _ _ _ _ _ _ us hl => match us, hl with | [_, _], _ => rfl))
    (case g_direct_value => exact Lw.has_of KX G ⟨_, _, _, _, _, _, _, _, _, _, by k_is, by k_is, by k_is, by k_is⟩ (fun fd F => F.binds (ps := ["study", "policy", "context"]) fun _ _ _ _ _ _ us hl => match us, hl with | [_, _, _], _ => rfl))
    (case g_term => exact Lw.has_of KX G ⟨_, _, _, _, _, _, _, _, _, _, by k_is, by k_is, by k_is, by k_is⟩ (fun fd F => F.binds (ps := ["study", "policy", "kind", "limit", "event"]) fun _ _ _ _ _ _ us hl => match us, hl with | [_, _, _, _, _], _ => rfl))
    (case g_terms => exact Lw.has_of KX G ⟨_, _, _, _, _, _, _, _, _, _, by k_is, by k_is, by k_is, by k_is⟩ (fun fd F => F.binds (ps := ["study", "policy", "kind", "limit"]) fun _ _ _ _ _ _ us hl => match us, hl with | [_, _, _, _], _ => rfl))
    (case g_variance_of_mean => exact Lw.has_of KX G ⟨_, _, _, _, _, _, _, _, _, _, by k_is, by k_is, by k_is, by k_is⟩ (fun fd F => F.binds (ps := ["values"]) fun _ _ _ _ _ _ us hl => match us, hl with | [_], _ => rfl))
    (case g_normalized_parts => exact Lw.has_of KX G ⟨_, _, _, _, _, _, _, _, _, _, by k_is, by k_is, by k_is, by k_is⟩ (fun fd F => F.binds (ps := ["study", "policy"]) fun _ _ _ _ _ _ us hl => match us, hl with | [_, _], _ => rfl))
    (case g_effective_parts => exact Lw.has_of KX G ⟨_, _, _, _, _, _, _, _, _, _, by k_is, by k_is, by k_is, by k_is⟩ (fun fd F => F.binds (ps := ["study", "policy"]) fun _ _ _ _ _ _ us hl => match us, hl with | [_, _], _ => rfl))
    (case g_rewards_of => exact Lw.has_of KX G ⟨_, _, _, _, _, _, _, _, _, _, by k_is, by k_is, by k_is, by k_is⟩ (fun fd F => F.binds (ps := ["study", "context", "action"]) fun _ _ _ _ _ _ us hl => match us, hl with | [_, _, _], _ => rfl))
    (case g_rewards_of_action => exact Lw.has_of KX G ⟨_, _, _, _, _, _, _, _, _, _, by k_is, by k_is, by k_is, by k_is⟩ (fun fd F => F.binds (ps := ["study", "action"]) fun _ _ _ _ _ _ us hl => match us, hl with | [_, _], _ => rfl))
    (case g_fitted => exact Lw.has_of KX G ⟨_, _, _, _, _, _, _, _, _, _, by k_is, by k_is, by k_is, by k_is⟩ (fun fd F => F.binds (ps := ["study", "context", "action"]) fun _ _ _ _ _ _ us hl => match us, hl with | [_, _, _], _ => rfl))
    (case g_fitted_row => exact Lw.has_of KX G ⟨_, _, _, _, _, _, _, _, _, _, by k_is, by k_is, by k_is, by k_is⟩ (fun fd F => F.binds (ps := ["study", "context"]) fun _ _ _ _ _ _ us hl => match us, hl with | [_, _], _ => rfl))
    (case g_context_probability => exact Lw.has_of KX G ⟨_, _, _, _, _, _, _, _, _, _, by k_is, by k_is, by k_is, by k_is⟩ (fun fd F => F.binds (ps := ["study", "context"]) fun _ _ _ _ _ _ us hl => match us, hl with | [_, _], _ => rfl))
    (case g_expected_reward => exact Lw.has_of KX G ⟨_, _, _, _, _, _, _, _, _, _, by k_is, by k_is, by k_is, by k_is⟩ (fun fd F => F.binds (ps := ["study", "policy", "context"]) fun _ _ _ _ _ _ us hl => match us, hl with | [_, _, _], _ => rfl))
    (case g_true_value_of => exact Lw.has_of KX G ⟨_, _, _, _, _, _, _, _, _, _, by k_is, by k_is, by k_is, by k_is⟩ (fun fd F => F.binds (ps := ["study", "policy"]) fun _ _ _ _ _ _ us hl => match us, hl with | [_, _], _ => rfl))
    (case g_possible_events => exact Lw.has_of KX G ⟨_, _, _, _, _, _, _, _, _, _, by k_is, by k_is, by k_is, by k_is⟩ (fun fd F => F.binds (ps := ["study", "logging"]) fun _ _ _ _ _ _ us hl => match us, hl with | [_, _], _ => rfl))
    (case g_moments => exact Lw.has_of KX G ⟨_, _, _, _, _, _, _, _, _, _, by k_is, by k_is, by k_is, by k_is⟩ (fun fd F => F.binds (ps := ["study", "logging", "policy", "kind", "limit"]) fun _ _ _ _ _ _ us hl => match us, hl with | [_, _, _, _, _], _ => rfl))
    (case g_unsupported_pairs => exact Lw.has_of KX G ⟨_, _, _, _, _, _, _, _, _, _, by k_is, by k_is, by k_is, by k_is⟩ (fun fd F => F.binds (ps := ["study", "logging", "policy"]) fun _ _ _ _ _ _ us hl => match us, hl with | [_, _, _], _ => rfl))
    (case g_next_seed => exact Lw.has_of KX G ⟨_, _, _, _, _, _, _, _, _, _, by k_is, by k_is, by k_is, by k_is⟩ (fun fd F => F.binds (ps := ["seed"]) fun _ _ _ _ _ _ us hl => match us, hl with | [_], _ => rfl))
    (case g_resampled_sum => exact Lw.has_of KX G ⟨_, _, _, _, _, _, _, _, _, _, by k_is, by k_is, by k_is, by k_is⟩ (fun fd F => F.binds (ps := ["numbers", "seed"]) fun _ _ _ _ _ _ us hl => match us, hl with | [_, _], _ => rfl))
    (case g_resampled_sums => exact Lw.has_of KX G ⟨_, _, _, _, _, _, _, _, _, _, by k_is, by k_is, by k_is, by k_is⟩ (fun fd F => F.binds (ps := ["numbers", "rounds", "seed"]) fun _ _ _ _ _ _ us hl => match us, hl with | [_, _, _], _ => rfl))
    (case g_resampled_estimates => exact Lw.has_of KX G ⟨_, _, _, _, _, _, _, _, _, _, by k_is, by k_is, by k_is, by k_is⟩ (fun fd F => F.binds (ps := ["values", "rounds", "seed"]) fun _ _ _ _ _ _ us hl => match us, hl with | [_, _, _], _ => rfl))
    (case g_is_place => exact Lw.has_of KX G ⟨_, _, _, _, _, _, _, _, _, _, by k_is, by k_is, by k_is, by k_is⟩ (fun fd F => F.binds (ps := ["study", "context", "action"]) fun _ _ _ _ _ _ us hl => match us, hl with | [_, _, _], _ => rfl))
    (case g_add_event => exact Lw.has_of KX G ⟨_, _, _, _, _, _, _, _, _, _, by k_is, by k_is, by k_is, by k_is⟩ (fun fd F => F.binds (ps := ["study", "numbers", "row"]) fun _ _ _ _ _ _ us hl => match us, hl with | [_, _, _], _ => rfl))
    (case g_remove_last => exact Lw.has_of KX G ⟨_, _, _, _, _, _, _, _, _, _, by k_is, by k_is, by k_is, by k_is⟩ (fun fd F => F.binds (ps := ["study", "numbers", "row"]) fun _ _ _ _ _ _ us hl => match us, hl with | [_, _, _], _ => rfl))
    (case g_log_event => exact Lw.has_of KX G ⟨_, _, _, _, _, _, _, _, _, _, by k_is, by k_is, by k_is, by k_is⟩ (fun fd F => F.binds (ps := ["study", "numbers", "row"]) fun _ _ _ _ _ _ us hl => match us, hl with | [_, _, _], _ => rfl))
    (case g_set_policy => exact Lw.has_of KX G ⟨_, _, _, _, _, _, _, _, _, _, by k_is, by k_is, by k_is, by k_is⟩ (fun fd F => F.binds (ps := ["study", "numbers", "row"]) fun _ _ _ _ _ _ us hl => match us, hl with | [_, _, _], _ => rfl))
    (case g_set_copy => exact Lw.has_of KX G ⟨_, _, _, _, _, _, _, _, _, _, by k_is, by k_is, by k_is, by k_is⟩ (fun fd F => F.binds (ps := ["study", "numbers", "row"]) fun _ _ _ _ _ _ us hl => match us, hl with | [_, _, _], _ => rfl))
    (case g_set_model => exact Lw.has_of KX G ⟨_, _, _, _, _, _, _, _, _, _, by k_is, by k_is, by k_is, by k_is⟩ (fun fd F => F.binds (ps := ["study", "numbers", "row"]) fun _ _ _ _ _ _ us hl => match us, hl with | [_, _, _], _ => rfl))
    (case g_fit_model => exact Lw.has_of KX G ⟨_, _, _, _, _, _, _, _, _, _, by k_is, by k_is, by k_is, by k_is⟩ (fun fd F => F.binds (ps := ["study", "numbers", "row"]) fun _ _ _ _ _ _ us hl => match us, hl with | [_, _, _], _ => rfl))
    (case g_set_truth => exact Lw.has_of KX G ⟨_, _, _, _, _, _, _, _, _, _, by k_is, by k_is, by k_is, by k_is⟩ (fun fd F => F.binds (ps := ["study", "numbers", "row"]) fun _ _ _ _ _ _ us hl => match us, hl with | [_, _, _], _ => rfl))
    (case g_is_change => exact Lw.has_of KX G ⟨_, _, _, _, _, _, _, _, _, _, by k_is, by k_is, by k_is, by k_is⟩ (fun fd F => F.binds (ps := ["number"]) fun _ _ _ _ _ _ us hl => match us, hl with | [_], _ => rfl))
    (case g_changed => exact Lw.has_of KX G ⟨_, _, _, _, _, _, _, _, _, _, by k_is, by k_is, by k_is, by k_is⟩ (fun fd F => F.binds (ps := ["number", "study", "numbers", "row"]) fun _ _ _ _ _ _ us hl => match us, hl with | [_, _, _, _], _ => rfl))
    (case g_precision_at => exact Lw.has_of KX G ⟨_, _, _, _, _, _, _, _, _, _, by k_is, by k_is, by k_is, by k_is⟩ (fun fd F => F.binds (ps := ["relevance", "many"]) fun _ _ _ _ _ _ us hl => match us, hl with | [_, _], _ => rfl))
    (case g_average_precision => exact Lw.has_of KX G ⟨_, _, _, _, _, _, _, _, _, _, by k_is, by k_is, by k_is, by k_is⟩ (fun fd F => F.binds (ps := ["relevance"]) fun _ _ _ _ _ _ us hl => match us, hl with | [_], _ => rfl))
    (case g_reciprocal_rank => exact Lw.has_of KX G ⟨_, _, _, _, _, _, _, _, _, _, by k_is, by k_is, by k_is, by k_is⟩ (fun fd F => F.binds (ps := ["relevance"]) fun _ _ _ _ _ _ us hl => match us, hl with | [_], _ => rfl))
    (case g_discounted_gain => exact Lw.has_of KX G ⟨_, _, _, _, _, _, _, _, _, _, by k_is, by k_is, by k_is, by k_is⟩ (fun fd F => F.binds (ps := ["gains"]) fun _ _ _ _ _ _ us hl => match us, hl with | [_], _ => rfl))
    (case g_ideal_gain => exact Lw.has_of KX G ⟨_, _, _, _, _, _, _, _, _, _, by k_is, by k_is, by k_is, by k_is⟩ (fun fd F => F.binds (ps := ["gains"]) fun _ _ _ _ _ _ us hl => match us, hl with | [_], _ => rfl))
    (case g_rising_pairs => exact Lw.has_of KX G ⟨_, _, _, _, _, _, _, _, _, _, by k_is, by k_is, by k_is, by k_is⟩ (fun fd F => F.binds (ps := ["numbers"]) fun _ _ _ _ _ _ us hl => match us, hl with | [_], _ => rfl))
    (case g_falling_pairs => exact Lw.has_of KX G ⟨_, _, _, _, _, _, _, _, _, _, by k_is, by k_is, by k_is, by k_is⟩ (fun fd F => F.binds (ps := ["numbers"]) fun _ _ _ _ _ _ us hl => match us, hl with | [_], _ => rfl))
    (case g_pairs_of => exact Lw.has_of KX G ⟨_, _, _, _, _, _, _, _, _, _, by k_is, by k_is, by k_is, by k_is⟩ (fun fd F => F.binds (ps := ["many"]) fun _ _ _ _ _ _ us hl => match us, hl with | [_], _ => rfl))
    (case g_true_value => exact Lw.has_of KX G ⟨_, _, _, _, _, _, _, _, _, _, by k_is, by k_is, by k_is, by k_is⟩ (fun fd F => F.binds (ps := ["study", "numbers", "row"]) fun _ _ _ _ _ _ us hl => match us, hl with | [_, _, _], _ => rfl))
    (case g_expectation => exact Lw.has_of KX G ⟨_, _, _, _, _, _, _, _, _, _, by k_is, by k_is, by k_is, by k_is⟩ (fun fd F => F.binds (ps := ["study", "numbers", "row"]) fun _ _ _ _ _ _ us hl => match us, hl with | [_, _, _], _ => rfl))
    (case g_unsupported => exact Lw.has_of KX G ⟨_, _, _, _, _, _, _, _, _, _, by k_is, by k_is, by k_is, by k_is⟩ (fun fd F => F.binds (ps := ["study", "numbers", "row"]) fun _ _ _ _ _ _ us hl => match us, hl with | [_, _, _], _ => rfl))
    (case g_precision => exact Lw.has_of KX G ⟨_, _, _, _, _, _, _, _, _, _, by k_is, by k_is, by k_is, by k_is⟩ (fun fd F => F.binds (ps := ["study", "numbers", "row"]) fun _ _ _ _ _ _ us hl => match us, hl with | [_, _, _], _ => rfl))
    (case g_rank_measures => exact Lw.has_of KX G ⟨_, _, _, _, _, _, _, _, _, _, by k_is, by k_is, by k_is, by k_is⟩ (fun fd F => F.binds (ps := ["study", "numbers", "row"]) fun _ _ _ _ _ _ us hl => match us, hl with | [_, _, _], _ => rfl))
    (case g_gains_measured => exact Lw.has_of KX G ⟨_, _, _, _, _, _, _, _, _, _, by k_is, by k_is, by k_is, by k_is⟩ (fun fd F => F.binds (ps := ["study", "numbers", "row"]) fun _ _ _ _ _ _ us hl => match us, hl with | [_, _, _], _ => rfl))
    (case g_order_measure => exact Lw.has_of KX G ⟨_, _, _, _, _, _, _, _, _, _, by k_is, by k_is, by k_is, by k_is⟩ (fun fd F => F.binds (ps := ["study", "numbers", "row"]) fun _ _ _ _ _ _ us hl => match us, hl with | [_, _, _], _ => rfl))
    (case g_looked_at => exact Lw.has_of KX G ⟨_, _, _, _, _, _, _, _, _, _, by k_is, by k_is, by k_is, by k_is⟩ (fun fd F => F.binds (ps := ["number", "study", "numbers", "row"]) fun _ _ _ _ _ _ us hl => match us, hl with | [_, _, _, _], _ => rfl))
    (case g_code_of => exact Lw.has_of KX G ⟨_, _, _, _, _, _, _, _, _, _, by k_is, by k_is, by k_is, by k_is⟩ (fun fd F => F.binds (ps := ["study", "policies", "kind", "limit", "least_events"]) fun _ _ _ _ _ _ us hl => match us, hl with | [_, _, _, _, _], _ => rfl))
    (case g_propensity_asked => exact Lw.has_of KX G ⟨_, _, _, _, _, _, _, _, _, _, by k_is, by k_is, by k_is, by k_is⟩ (fun fd F => F.binds (ps := ["study", "numbers", "row"]) fun _ _ _ _ _ _ us hl => match us, hl with | [_, _, _], _ => rfl))
    (case g_estimate => exact Lw.has_of KX G ⟨_, _, _, _, _, _, _, _, _, _, by k_is, by k_is, by k_is, by k_is⟩ (fun fd F => F.binds (ps := ["study", "numbers", "row"]) fun _ _ _ _ _ _ us hl => match us, hl with | [_, _, _], _ => rfl))
    (case g_normalized => exact Lw.has_of KX G ⟨_, _, _, _, _, _, _, _, _, _, by k_is, by k_is, by k_is, by k_is⟩ (fun fd F => F.binds (ps := ["study", "numbers", "row"]) fun _ _ _ _ _ _ us hl => match us, hl with | [_, _, _], _ => rfl))
    (case g_replay => exact Lw.has_of KX G ⟨_, _, _, _, _, _, _, _, _, _, by k_is, by k_is, by k_is, by k_is⟩ (fun fd F => F.binds (ps := ["study", "numbers", "row"]) fun _ _ _ _ _ _ us hl => match us, hl with | [_, _, _], _ => rfl))
    (case g_effective_size => exact Lw.has_of KX G ⟨_, _, _, _, _, _, _, _, _, _, by k_is, by k_is, by k_is, by k_is⟩ (fun fd F => F.binds (ps := ["study", "numbers", "row"]) fun _ _ _ _ _ _ us hl => match us, hl with | [_, _, _], _ => rfl))
    (case g_variance => exact Lw.has_of KX G ⟨_, _, _, _, _, _, _, _, _, _, by k_is, by k_is, by k_is, by k_is⟩ (fun fd F => F.binds (ps := ["study", "numbers", "row"]) fun _ _ _ _ _ _ us hl => match us, hl with | [_, _, _], _ => rfl))
    (case g_interval => exact Lw.has_of KX G ⟨_, _, _, _, _, _, _, _, _, _, by k_is, by k_is, by k_is, by k_is⟩ (fun fd F => F.binds (ps := ["study", "numbers", "row"]) fun _ _ _ _ _ _ us hl => match us, hl with | [_, _, _], _ => rfl))
    (case g_compare => exact Lw.has_of KX G ⟨_, _, _, _, _, _, _, _, _, _, by k_is, by k_is, by k_is, by k_is⟩ (fun fd F => F.binds (ps := ["study", "numbers", "row"]) fun _ _ _ _ _ _ us hl => match us, hl with | [_, _, _], _ => rfl))
    (case g_by_context => exact Lw.has_of KX G ⟨_, _, _, _, _, _, _, _, _, _, by k_is, by k_is, by k_is, by k_is⟩ (fun fd F => F.binds (ps := ["study", "numbers", "row"]) fun _ _ _ _ _ _ us hl => match us, hl with | [_, _, _], _ => rfl))
    (case g_greatest_weight => exact Lw.has_of KX G ⟨_, _, _, _, _, _, _, _, _, _, by k_is, by k_is, by k_is, by k_is⟩ (fun fd F => F.binds (ps := ["study", "numbers", "row"]) fun _ _ _ _ _ _ us hl => match us, hl with | [_, _, _], _ => rfl))
    (case g_model_info => exact Lw.has_of KX G ⟨_, _, _, _, _, _, _, _, _, _, by k_is, by k_is, by k_is, by k_is⟩ (fun fd F => F.binds (ps := ["study", "numbers", "row"]) fun _ _ _ _ _ _ us hl => match us, hl with | [_, _, _], _ => rfl))
    (case g_bootstrap => exact Lw.has_of KX G ⟨_, _, _, _, _, _, _, _, _, _, by k_is, by k_is, by k_is, by k_is⟩ (fun fd F => F.binds (ps := ["study", "numbers", "row"]) fun _ _ _ _ _ _ us hl => match us, hl with | [_, _, _], _ => rfl))
    (case g_status => exact Lw.has_of KX G ⟨_, _, _, _, _, _, _, _, _, _, by k_is, by k_is, by k_is, by k_is⟩ (fun fd F => F.binds (ps := ["study", "numbers", "row"]) fun _ _ _ _ _ _ us hl => match us, hl with | [_, _, _], _ => rfl))
    (case g_is_question => exact Lw.has_of KX G ⟨_, _, _, _, _, _, _, _, _, _, by k_is, by k_is, by k_is, by k_is⟩ (fun fd F => F.binds (ps := ["number"]) fun _ _ _ _ _ _ us hl => match us, hl with | [_], _ => rfl))
    (case g_answered => exact Lw.has_of KX G ⟨_, _, _, _, _, _, _, _, _, _, by k_is, by k_is, by k_is, by k_is⟩ (fun fd F => F.binds (ps := ["number", "study", "numbers", "row"]) fun _ _ _ _ _ _ us hl => match us, hl with | [_, _, _, _], _ => rfl))
    (case g_read_row => exact Lw.has_of KX G ⟨_, _, _, _, _, _, _, _, _, _, by k_is, by k_is, by k_is, by k_is⟩ (fun fd F => F.binds (ps := ["calls", "number", "at"]) fun _ _ _ _ _ _ us hl => match us, hl with | [_, _, _], _ => rfl))
    (case g_read_call => exact Lw.has_of KX G ⟨_, _, _, _, _, _, _, _, _, _, by k_is, by k_is, by k_is, by k_is⟩ (fun fd F => F.binds (ps := ["calls", "at"]) fun _ _ _ _ _ _ us hl => match us, hl with | [_, _], _ => rfl))
    (case g_read_calls => exact Lw.has_of KX G ⟨_, _, _, _, _, _, _, _, _, _, by k_is, by k_is, by k_is, by k_is⟩ (fun fd F => F.binds (ps := ["calls"]) fun _ _ _ _ _ _ us hl => match us, hl with | [_], _ => rfl))
    (case g_created => exact Lw.has_of KX G ⟨_, _, _, _, _, _, _, _, _, _, by k_is, by k_is, by k_is, by k_is⟩ (fun fd F => F.binds (ps := ["study", "numbers"]) fun _ _ _ _ _ _ us hl => match us, hl with | [_, _], _ => rfl))
    (case g_answer_of => exact Lw.has_of KX G ⟨_, _, _, _, _, _, _, _, _, _, by k_is, by k_is, by k_is, by k_is⟩ (fun fd F => F.binds (ps := ["study", "number", "numbers", "row"]) fun _ _ _ _ _ _ us hl => match us, hl with | [_, _, _, _], _ => rfl))
    (case g_answers => exact hF)
    (case m_add_event => exact PySem.W.mg_of KX G (by k_is))
    (case m_remove_last => exact PySem.W.mg_of KX G (by k_is))
    (case m_log_event => exact PySem.W.mg_of KX G (by k_is))
    (case m_set_policy => exact PySem.W.mg_of KX G (by k_is))
    (case m_set_copy => exact PySem.W.mg_of KX G (by k_is))
    (case m_set_model => exact PySem.W.mg_of KX G (by k_is))
    (case m_fit_model => exact PySem.W.mg_of KX G (by k_is))
    (case m_set_truth => exact PySem.W.mg_of KX G (by k_is))
    (case D_d1 => exact ⟨⟨_, _, by k_is, by repeat (first | exact .nil | refine .cons ⟨⟨_, rfl⟩, by decide, rfl⟩ ?_)⟩, by decide⟩)
    (case nd_d1 => decide)
    (case m_propensity_asked => exact PySem.W.mg_of KX G (by k_is))
    (case m_estimate => exact PySem.W.mg_of KX G (by k_is))
    (case m_normalized => exact PySem.W.mg_of KX G (by k_is))
    (case m_replay => exact PySem.W.mg_of KX G (by k_is))
    (case m_effective_size => exact PySem.W.mg_of KX G (by k_is))
    (case m_variance => exact PySem.W.mg_of KX G (by k_is))
    (case m_interval => exact PySem.W.mg_of KX G (by k_is))
    (case m_compare => exact PySem.W.mg_of KX G (by k_is))
    (case m_by_context => exact PySem.W.mg_of KX G (by k_is))
    (case m_greatest_weight => exact PySem.W.mg_of KX G (by k_is))
    (case m_model_info => exact PySem.W.mg_of KX G (by k_is))
    (case m_bootstrap => exact PySem.W.mg_of KX G (by k_is))
    (case m_status => exact PySem.W.mg_of KX G (by k_is))
    (case D_d2 => exact ⟨⟨_, _, by k_is, by repeat (first | exact .nil | refine .cons ⟨⟨_, rfl⟩, by decide, rfl⟩ ?_)⟩, by decide⟩)
    (case nd_d2 => decide)
    (case m_true_value => exact PySem.W.mg_of KX G (by k_is))
    (case m_expectation => exact PySem.W.mg_of KX G (by k_is))
    (case m_unsupported => exact PySem.W.mg_of KX G (by k_is))
    (case m_precision => exact PySem.W.mg_of KX G (by k_is))
    (case m_rank_measures => exact PySem.W.mg_of KX G (by k_is))
    (case m_gains_measured => exact PySem.W.mg_of KX G (by k_is))
    (case m_order_measure => exact PySem.W.mg_of KX G (by k_is))
    (case D_d3 => exact ⟨⟨_, _, by k_is, by repeat (first | exact .nil | refine .cons ⟨⟨_, rfl⟩, by decide, rfl⟩ ?_)⟩, by decide⟩)
    (case nd_d3 => decide)

  case S =>
    intro K H xs a hO hwi hask hx
    cases hx with
    | cons h1 h2 =>
      cases h2
      cases h1 with
      | lst hs ha =>
        have e := L2.ints_dw a.1 _ ha
        subst e
        have hq : PyKp432.answers_asked a.1 = true := hask
        obtain ⟨cs, e1, ok, h60, e2⟩ := Lw.plain hq
        refine ⟨_, cs, rfl, ?_, ok, h60, fun p H' _ hp => ?_⟩
        · rw [← e1]
          exact hs
        · refine .lst (L2.SqL.of hp) ?_
          rw [e2]
          exact L2.dw_ints _
