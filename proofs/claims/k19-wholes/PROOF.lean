import PyProof.Rows.All
import Wide.All
import OpenK.AllK
import Wide.FinOn
import PyProof.EqAt
import PyProof.EqKinds
import PyProof.TupleCall
import HandS.Base
import HandS.Call
import HandS.List
import HandS.Comp
import HandS.Words
import HandS.WordsList
import HandS.Iter
import HandS.Defaults
import HandS.Style
import HandS.More
import HandS.TryOnly
import HandS.HeadHook2
import HandS.Wide
import HandS.ExcInit
import HandS.ExcOwn
import HandS.ExcField
import HandS.IsInst
import KE.KTryMore
import HandS.Exc
import HandS.Lambda
import HandS.HeadHook4
import HandS.Head0
import HandS.Head1
import HandS.Head2
import HandS.HeadEnd
import HandS.HeadWalk
import HandS.EndTab
import PySem.Challenge.RW_cornertrade_k19_wholes_of_no_row
set_option Elab.async false
set_option linter.all false
set_option maxRecDepth 100000
set_option maxHeartbeats 0
/-! Fractions, arrows, wholes: what the program and the law reckon, in plain Lean. -/
namespace Ct
abbrev Q2 := Int × Int
abbrev A2 := Q2 × Q2
/-- a fraction in lowest terms, its under above nought -/
def low (a b : Int) : Q2 := ((if b > 0 then 1 else -1) * a / (Int.gcd a b : Int), (if b > 0 then 1 else -1) * b / (Int.gcd a b : Int))
/-- small enough for the machine -/
def Sz (x : Q2) : Prop := x.1.natAbs < 2 ^ 200000 ∧ x.2.natAbs < 2 ^ 200000 ∧ 0 < x.2
def plus (x y : Q2) : Q2 := low (x.1 * y.2 + y.1 * x.2) (x.2 * y.2)
def less (x y : Q2) : Q2 := low (x.1 * y.2 - y.1 * x.2) (x.2 * y.2)
def times (x y : Q2) : Q2 := low (x.1 * y.1) (x.2 * y.2)
def over (x y : Q2) : Q2 := low (x.1 * y.2) (x.2 * y.1)
def summed (z w : A2) : A2 := (plus z.1 w.1, plus z.2 w.2)
def off (z w : A2) : A2 := (less z.1 w.1, less z.2 w.2)
def mate (z : A2) : A2 := (z.1, less (0, 1) z.2)
def mateL (z : A2) : A2 := (z.1, (0 - z.2.1, z.2.2))
def made (z w : A2) : A2 := (less (times z.1 w.1) (times z.2 w.2), plus (times z.1 w.2) (times z.2 w.1))
def often (z : A2) (m : Q2) : A2 := (times z.1 m, times z.2 m)
def weight (z : A2) : Q2 := plus (times z.1 z.1) (times z.2 z.2)
def SzA (z : A2) : Prop := Sz z.1 ∧ Sz z.2
/-- what the product of two arrows goes by is small enough -/
structure SzMade (z w : A2) : Prop where
  a : SzA z
  b : SzA w
  c1 : Sz (times z.1 w.1)
  c2 : Sz (times z.2 w.2)
  c3 : Sz (times z.1 w.2)
  c4 : Sz (times z.2 w.1)
structure SzWeight (z : A2) : Prop where
  a : SzA z
  c1 : Sz (times z.1 z.1)
  c2 : Sz (times z.2 z.2)
abbrev org : A2 := ((0, 1), (0, 1))
abbrev lone : A2 := ((1, 1), (0, 1))
/-- the arrow at a power, nought beyond -/
def ent (row : List A2) (k : Int) : A2 := if 0 ≤ k ∧ k < row.length then row.getD k.toNat org else org
/-! ### the rest by powers -/
structure RSt where
  f0 : A2
  f1 : A2
  w : Q2
def rStep (h : Q2) (s : RSt) (k : Nat) (z : A2) : RSt :=
  if k % 2 = 0 then ⟨summed s.f0 (often z s.w), s.f1, s.w⟩ else ⟨s.f0, summed s.f1 (often z s.w), less (0, 1) (times s.w h)⟩
def rGo (h : Q2) : List A2 → Nat → RSt → RSt
  | [], _, s => s
  | z :: zs, k, s => rGo h zs (k + 1) (rStep h s k z)
def r0 : RSt := ⟨org, org, (1, 1)⟩
def restP (h : Q2) (row : List A2) : A2 × A2 := ((rGo h row 0 r0).f0, (rGo h row 0 r0).f1)
def SzR (h : Q2) : List A2 → Nat → RSt → Prop
  | [], _, _ => True
  | z :: zs, k, s => SzA z ∧ Sz s.w ∧ SzA (often z s.w) ∧ SzA s.f0 ∧ SzA s.f1 ∧ Sz h ∧ Sz (times s.w h) ∧ SzR h zs (k + 1) (rStep h s k z)
/-! ### division by t t and a weight, from the top -/
def divR (h : Q2) (l : List A2) : List A2 × List A2 := match l with
  | z :: b :: c :: r => ((divR h (b :: off c (often z h) :: r)).1, z :: (divR h (b :: off c (often z h) :: r)).2)
  | l => (l, [])
termination_by l.length
def SzD (h : Q2) (l : List A2) : Prop := match l with
  | z :: b :: c :: r => SzA z ∧ Sz h ∧ SzA c ∧ SzA (often z h) ∧ SzD h (b :: off c (often z h) :: r)
  | _ => True
termination_by l.length
theorem divR_step (h : Q2) (z b c : A2) (r : List A2) : divR h (z :: b :: c :: r) = ((divR h (b :: off c (often z h) :: r)).1, z :: (divR h (b :: off c (often z h) :: r)).2) := by rw [divR]
theorem divR_end (h : Q2) {l : List A2} (hl : l.length ≤ 2) : divR h l = (l, []) := by
  match l, hl with
  | [], _ => rw [divR]; simp
  | [_], _ => rw [divR]; simp
  | [_, _], _ => rw [divR]; simp
theorem SzD_step {h : Q2} {z b c : A2} {r : List A2} (x : SzD h (z :: b :: c :: r)) : SzA z ∧ Sz h ∧ SzA c ∧ SzA (often z h) ∧ SzD h (b :: off c (often z h) :: r) := by rwa [SzD] at x
theorem divR_len (h : Q2) : ∀ (n : Nat) (l : List A2), l.length = n → (divR h l).2.length = l.length - 2 ∧ (divR h l).1.length = min l.length 2 := by
  intro n
  induction n with
  | zero => intro l hl; rw [divR_end h (by omega)]; simp [hl]
  | succ n ih =>
    intro l hl
    match l, hl with
    | [_], _ => rw [divR_end h (by simp)]; simp
    | [_, _], _ => rw [divR_end h (by simp)]; simp
    | z :: b :: c :: r, hl =>
      rw [divR_step]
      obtain ⟨h1, h2⟩ := ih (b :: off c (often z h) :: r) (by simpa using hl)
      refine ⟨?_, ?_⟩
      · show ((divR h (b :: off c (often z h) :: r)).2).length + 1 = _
        rw [h1]; simp
      · show ((divR h (b :: off c (often z h) :: r)).1).length = _
        rw [h2]; simp
/-- what is left: the arrows without t and with it -/
def restL (h : Q2) (row : List A2) : A2 × A2 := (ent (divR h row.reverse).1.reverse 0, ent (divR h row.reverse).1.reverse 1)
/-- the other factor -/
def quot (h : Q2) (row : List A2) : List A2 := (divR h row.reverse).2.reverse
/-! ### the first rod -/
def frontA (mt : A2 → A2) (y1 x1 y2 x2 : A2) (h : Q2) : Option A2 :=
  if plus (weight x1) (weight x2) = (0, 1) then none
  else if summed (made y1 (mt x1)) (made y2 (mt x2)) ≠ org then none
  else if weight (often (off (made y2 x1) (made y1 x2)) (over (1, 1) (plus (weight x1) (weight x2)))) = h then some (often (off (made y2 x1) (made y1 x2)) (over (1, 1) (plus (weight x1) (weight x2)))) else none
/-- the sizes on the way -/
structure SzF (mt : A2 → A2) (y1 x1 y2 x2 : A2) (h : Q2) : Prop where
  w1 : SzWeight x1
  w2 : SzWeight x2
  p1 : Sz (weight x1)
  p2 : Sz (weight x2)
  s : Sz (plus (weight x1) (weight x2))
  m1 : SzMade y1 (mt x1)
  m2 : SzMade y2 (mt x2)
  n1 : SzA (made y1 (mt x1))
  n2 : SzA (made y2 (mt x2))
  m3 : SzMade y2 x1
  m4 : SzMade y1 x2
  n3 : SzA (made y2 x1)
  n4 : SzA (made y1 x2)
  o : SzA (off (made y2 x1) (made y1 x2))
  v : plus (weight x1) (weight x2) ≠ (0, 1) → Sz (over (1, 1) (plus (weight x1) (weight x2))) ∧ SzWeight (often (off (made y2 x1) (made y1 x2)) (over (1, 1) (plus (weight x1) (weight x2))))
  nz : plus (weight x1) (weight x2) ≠ (0, 1) → (plus (weight x1) (weight x2)).1 ≠ 0
/-! ### a whole without its first rod -/
def lows (mt : A2 → A2) (p q : List A2) (z : A2) : List A2 := (List.range (p.length + 1)).map fun k : Nat => summed (ent p ((k : Int) - 1)) (made z (mt (ent q (k : Int))))
def highs (mt : A2 → A2) (p q : List A2) (z : A2) : List A2 := (List.range p.length).map fun k : Nat => off (ent q ((k : Int) - 1)) (made z (mt (ent p (k : Int))))
structure SzW (mt : A2 → A2) (p q : List A2) (z : A2) (h : Q2) : Prop where
  l1 : ∀ k : Nat, k < p.length + 1 → SzA (ent p ((k : Int) - 1)) ∧ SzA (ent q (k : Int)) ∧ SzMade z (mt (ent q (k : Int))) ∧ SzA (made z (mt (ent q (k : Int))))
  l2 : ∀ k : Nat, k < p.length → SzA (ent q ((k : Int) - 1)) ∧ SzA (ent p (k : Int)) ∧ SzMade z (mt (ent p (k : Int))) ∧ SzA (made z (mt (ent p (k : Int))))
  d1 : SzD h (lows mt p q z).reverse
  d2 : SzD h (highs mt p q z).reverse
/-! ### all rods -/
def pre {ε : Type} (zs : List A2) : Except Nat (List A2 × ε) → Except Nat (List A2 × ε)
  | .error e => .error e
  | .ok (ys, e) => .ok (zs ++ ys, e)
/-- one rod off, then the others -/
def stepB {ε : Type} (k : Nat) (o : Option A2) (f : A2 → Except Nat (List A2 × ε)) : Except Nat (List A2 × ε) :=
  match o with
  | none => .error k
  | some z => pre [z] (f z)
def runB (mt : A2 → A2) (rs : Q2 → List A2 → A2 × A2) : List Q2 → Nat → List A2 → List A2 → Except Nat (List A2 × List A2 × List A2)
  | [], _, p, q => .ok ([], p, q)
  | h :: hs, k, p, q => stepB k (frontA mt (rs h p).1 (rs h p).2 (rs h q).1 (rs h q).2 h) fun z => runB mt rs hs (k + 1) (quot h (lows mt p q z)) (quot h (highs mt p q z))
def corners : A2 → List A2 → List A2
  | s, [] => [s]
  | s, z :: zs => s :: corners (summed s z) zs
def builtP (hs : List Q2) (p q : List A2) : Except Nat (List A2) :=
  if p.length ≠ hs.length + 1 ∨ q.length ≠ hs.length then .error 0
  else match runB mate restP hs 0 p q with
    | .error e => .error e
    | .ok (zs, p', q') => if p' = [lone] ∧ q' = [] then .ok (corners org zs) else .error hs.length
def builtL (hs : List Q2) (p q : List A2) : Except Nat (List A2) :=
  if p.length ≠ hs.length + 1 ∨ q.length ≠ hs.length then .error 0
  else match runB mateL restL hs 0 p q with
    | .error e => .error e
    | .ok (zs, p', _) => if p' = [lone] then .ok (corners org zs) else .error hs.length
/-! ### sizes of the rest -/
def SzC : A2 → List A2 → Prop
  | s, [] => SzA s
  | s, z :: zs => SzA s ∧ SzA z ∧ SzC (summed s z) zs
/-- one rod more -/
def wlow (p q : List A2) (z : A2) : List A2 := (List.range (p.length + 1)).map fun k : Nat => off (ent p ((k : Int) - 1)) (made (ent q (k : Int)) (mateL z))
def whigh (p q : List A2) (z : A2) : List A2 := (List.range p.length).map fun k : Nat => summed (made (ent p (k : Int)) z) (ent q ((k : Int) - 1))
def wholeGo : List A2 → List A2 → List A2 → List A2 × List A2
  | [], p, q => (p, q)
  | z :: zs, p, q => wholeGo zs (wlow p q z) (whigh p q z)
def SzWh : List A2 → List A2 → List A2 → Prop
  | [], _, _ => True
  | z :: zs, p, q => ((∀ k : Nat, k < p.length + 1 → SzA (ent p ((k : Int) - 1)) ∧ SzMade (ent q (k : Int)) (mateL z) ∧ SzA (made (ent q (k : Int)) (mateL z))) ∧
      (∀ k : Nat, k < p.length → SzMade (ent p (k : Int)) z ∧ SzA (made (ent p (k : Int)) z) ∧ SzA (ent q ((k : Int) - 1)))) ∧ SzWh zs (wlow p q z) (whigh p q z)
theorem wlow_len (p q : List A2) (z : A2) : (wlow p q z).length = p.length + 1 := by unfold wlow; simp
theorem whigh_len (p q : List A2) (z : A2) : (whigh p q z).length = p.length := by unfold whigh; simp
theorem quot_len (h : Q2) (l : List A2) : (quot h l).length = l.length - 2 := by
  unfold quot
  rw [List.length_reverse, (divR_len h _ l.reverse rfl).1, List.length_reverse]
theorem pre_pre {ε : Type} (xs ys : List A2) (r : Except Nat (List A2 × ε)) : pre xs (pre ys r) = pre (xs ++ ys) r := by
  cases r with
  | error e => rfl
  | ok a => obtain ⟨zs, e⟩ := a; simp [pre]
theorem pre_nil {ε : Type} (r : Except Nat (List A2 × ε)) : pre [] r = r := by
  cases r with
  | error e => rfl
  | ok a => obtain ⟨zs, e⟩ := a; simp [pre]
theorem runB_nil (mt : A2 → A2) (rs : Q2 → List A2 → A2 × A2) (k : Nat) (p q : List A2) : runB mt rs [] k p q = .ok ([], p, q) := by unfold runB; rfl
theorem runB_cons (mt : A2 → A2) (rs : Q2 → List A2 → A2 × A2) (h : Q2) (hs : List Q2) (k : Nat) (p q : List A2) : runB mt rs (h :: hs) k p q = stepB k (frontA mt (rs h p).1 (rs h p).2 (rs h q).1 (rs h q).2 h) fun z => runB mt rs hs (k + 1) (quot h (lows mt p q z)) (quot h (highs mt p q z)) := by
  conv => lhs; unfold runB
theorem runB_none {mt : A2 → A2} {rs : Q2 → List A2 → A2 × A2} {h : Q2} {hs : List Q2} {k : Nat} {p q : List A2} (e : frontA mt (rs h p).1 (rs h p).2 (rs h q).1 (rs h q).2 h = none) : runB mt rs (h :: hs) k p q = .error k := by
  rw [runB_cons, e, stepB]
theorem runB_some {mt : A2 → A2} {rs : Q2 → List A2 → A2 × A2} {h : Q2} {hs : List Q2} {k : Nat} {p q : List A2} {z : A2} (e : frontA mt (rs h p).1 (rs h p).2 (rs h q).1 (rs h q).2 h = some z) :
    runB mt rs (h :: hs) k p q = pre [z] (runB mt rs hs (k + 1) (quot h (lows mt p q z)) (quot h (highs mt p q z))) := by
  rw [runB_cons, e, stepB]
def SzB (mt : A2 → A2) (rs : Q2 → List A2 → A2 × A2) (sr : Q2 → List A2 → Prop) : List Q2 → List A2 → List A2 → Prop
  | [], _, _ => True
  | h :: hs, p, q => (sr h p ∧ sr h q ∧ SzF mt (rs h p).1 (rs h p).2 (rs h q).1 (rs h q).2 h) ∧
      ∀ z, frontA mt (rs h p).1 (rs h p).2 (rs h q).1 (rs h q).2 h = some z → SzW mt p q z h ∧ SzB mt rs sr hs (quot h (lows mt p q z)) (quot h (highs mt p q z))
def srL (h : Q2) (p : List A2) : Prop := SzD h p.reverse
def srP (h : Q2) (p : List A2) : Prop := SzR h p 0 r0
def Lens (hs : List Q2) (p q : List A2) : Prop := p.length = hs.length + 1 ∧ q.length = hs.length
theorem builtL_len {hs : List Q2} {p q : List A2} (h : ¬ Lens hs p q) : builtL hs p q = .error 0 := by
  unfold builtL
  rw [if_pos]
  unfold Lens at h
  omega
theorem builtP_len {hs : List Q2} {p q : List A2} (h : ¬ Lens hs p q) : builtP hs p q = .error 0 := by
  unfold builtP
  rw [if_pos]
  unfold Lens at h
  omega
theorem builtL_err {hs : List Q2} {p q : List A2} {k : Nat} (h : Lens hs p q) (e : runB mateL restL hs 0 p q = .error k) : builtL hs p q = .error k := by
  unfold builtL
  rw [if_neg (by unfold Lens at h; omega), e]
theorem builtL_ok {hs : List Q2} {p q zs p' q' : List A2} (h : Lens hs p q) (e : runB mateL restL hs 0 p q = .ok (zs, p', q')) : builtL hs p q = if p' = [lone] then .ok (corners org zs) else .error hs.length := by
  unfold builtL
  rw [if_neg (by unfold Lens at h; omega), e]
theorem builtP_err {hs : List Q2} {p q : List A2} {k : Nat} (h : Lens hs p q) (e : runB mate restP hs 0 p q = .error k) : builtP hs p q = .error k := by
  unfold builtP
  rw [if_neg (by unfold Lens at h; omega), e]
theorem builtP_ok {hs : List Q2} {p q zs p' q' : List A2} (h : Lens hs p q) (e : runB mate restP hs 0 p q = .ok (zs, p', q')) : builtP hs p q = if p' = [lone] ∧ q' = [] then .ok (corners org zs) else .error hs.length := by
  unfold builtP
  rw [if_neg (by unfold Lens at h; omega), e]
theorem lows_len (mt : A2 → A2) (p q : List A2) (z : A2) : (lows mt p q z).length = p.length + 1 := by unfold lows; simp
theorem highs_len (mt : A2 → A2) (p q : List A2) (z : A2) : (highs mt p q z).length = p.length := by unfold highs; simp
/-- the corners but the last, the last -/
def cInit : A2 → List A2 → List A2
  | _, [] => []
  | s, z :: zs => s :: cInit (summed s z) zs
def cLast : A2 → List A2 → A2
  | s, [] => s
  | s, z :: zs => cLast (summed s z) zs
theorem corners_split : ∀ (zs : List A2) (s : A2), corners s zs = cInit s zs ++ [cLast s zs]
  | [], _ => rfl
  | z :: zs, s => by
    show s :: corners (summed s z) zs = (s :: cInit (summed s z) zs) ++ [cLast (summed s z) zs]
    rw [corners_split zs]; rfl
theorem corners_snoc (z : A2) : ∀ (zs : List A2) (s : A2), corners s (zs ++ [z]) = corners s zs ++ [summed (cLast s zs) z]
  | [], _ => rfl
  | y :: zs, s => by
    show s :: corners (summed s y) (zs ++ [z]) = (s :: corners (summed s y) zs) ++ [summed (cLast (summed s y) zs) z]
    rw [corners_snoc z zs]; rfl
theorem cLast_snoc (z : A2) : ∀ (zs : List A2) (s : A2), cLast s (zs ++ [z]) = summed (cLast s zs) z
  | [], _ => rfl
  | y :: zs, s => cLast_snoc z zs (summed s y)
theorem corners_len : ∀ (zs : List A2) (s : A2), (corners s zs).length = zs.length + 1
  | [], _ => rfl
  | y :: zs, s => by
    show (corners (summed s y) zs).length + 1 = _
    rw [corners_len zs]; rfl
/-- the corners' sizes on the way -/
def SzK (mt : A2 → A2) (rs : Q2 → List A2 → A2 × A2) : A2 → List Q2 → List A2 → List A2 → Prop
  | _, [], _, _ => True
  | s, h :: hs, p, q => ∀ z, frontA mt (rs h p).1 (rs h p).2 (rs h q).1 (rs h q).2 h = some z → SzA s ∧ SzA z ∧ SzK mt rs (summed s z) hs (quot h (lows mt p q z)) (quot h (highs mt p q z))
/-! ### small numbers, bent wholes -/
def SmQ (x : Q2) : Prop := ∃ a b : Int, -6 ≤ a ∧ a ≤ 6 ∧ 1 ≤ b ∧ b ≤ 3 ∧ x = low a b
def SmA (z : A2) : Prop := SmQ z.1 ∧ SmQ z.2
abbrev TupW := List A2 × List A2 × List Q2
/-- what bent_whole may answer -/
structure Bent (a b : TupW) : Prop where
  p : ∀ x ∈ b.1, x ∈ a.1 ∨ SmA x ∨ ∃ y ∈ a.1, x = often y (2, 1)
  q : ∀ x ∈ b.2.1, x ∈ a.2.1 ∨ SmA x ∨ ∃ y ∈ a.2.1, x = often y (2, 1)
  w : ∀ h ∈ b.2.2, h ∈ a.2.2 ∨ ∃ k : Int, 1 ≤ k ∧ k ≤ 40 ∧ h = (k, 1)
  lp : b.1.length ≤ a.1.length + 1
  lq : b.2.1.length ≤ a.2.1.length
  lw : b.2.2.length = a.2.2.length
structure OkBent (a : TupW) : Prop where
  p : ∀ x ∈ a.1, SzA x ∧ SzA (often x (2, 1))
  q : ∀ x ∈ a.2.1, SzA x ∧ SzA (often x (2, 1))
  l1 : 1 ≤ a.2.1.length
  l2 : a.2.1.length ≤ 200
  l3 : a.1.length = a.2.1.length + 1
  l4 : a.2.2.length = a.2.1.length
abbrev TupB := List A2 × List A2 × List Q2
structure OkBL (a : TupB) : Prop where
  s : Lens a.2.2 a.1 a.2.1 → SzB mateL restL srL a.2.2 a.1 a.2.1
  c : Lens a.2.2 a.1 a.2.1 → ∀ zs p' q', runB mateL restL a.2.2 0 a.1 a.2.1 = .ok (zs, p', q') → SzC org zs
  l : a.2.2.length ≤ 700
structure OkBP (a : TupB) : Prop where
  s : Lens a.2.2 a.1 a.2.1 → SzB mate restP srP a.2.2 a.1 a.2.1
  c : Lens a.2.2 a.1 a.2.1 → SzK mate restP org a.2.2 a.1 a.2.1
  l : a.2.2.length ≤ 700
end Ct
/-! The plain mathematics, first part: canonical fractions; the program's reckoning and the law's answer alike. -/
namespace Ct
/-- in lowest terms -/
structure CnQ (x : Q2) : Prop where
  pos : 0 < x.2
  low : Int.gcd x.1 x.2 = 1
def CnA (z : A2) : Prop := CnQ z.1 ∧ CnQ z.2
def vl (x : Q2) : Rat := (x.1 : Rat) / (x.2 : Rat)
theorem ratne {a : Int} (h : a ≠ 0) : (a : Rat) ≠ 0 := fun q => h (Rat.intCast_inj.mp (by simpa using q))
theorem CnQ.ne {x : Q2} (h : CnQ x) : (x.2 : Rat) ≠ 0 := ratne (by have := h.pos; omega)
theorem coprime_dvd {a b c : Int} (h : Int.gcd a b = 1) (d : b ∣ c * a) : b ∣ c := by
  have q : Nat.Coprime b.natAbs a.natAbs := by
    show Nat.gcd b.natAbs a.natAbs = 1
    rw [Nat.gcd_comm, ← Int.gcd_eq_natAbs_gcd_natAbs]; exact h
  have d2 : b.natAbs ∣ c.natAbs * a.natAbs := by
    rw [← Int.natAbs_mul]; exact Int.natAbs_dvd_natAbs.mpr d
  exact Int.natAbs_dvd_natAbs.mp (q.dvd_of_dvd_mul_right d2)
theorem cn_ext {x y : Q2} (hx : CnQ x) (hy : CnQ y) (h : vl x = vl y) : x = y := by
  have e : x.1 * y.2 = y.1 * x.2 := by
    have nx := hx.ne
    have ny := hy.ne
    unfold vl at h
    apply Rat.intCast_inj.mp
    rw [Rat.intCast_mul, Rat.intCast_mul]
    grind
  have px := hx.pos
  have py := hy.pos
  have d1 : x.2 ∣ y.2 := coprime_dvd hx.low ⟨y.1, by rw [Int.mul_comm y.2 x.1, e, Int.mul_comm]⟩
  have d2 : y.2 ∣ x.2 := coprime_dvd hy.low ⟨x.1, by rw [Int.mul_comm x.2 y.1, ← e, Int.mul_comm]⟩
  have e2 : x.2 = y.2 := Int.dvd_antisymm (by omega) (by omega) d1 d2
  have e1 : x.1 = y.1 := by
    rw [e2] at e
    exact Int.eq_of_mul_eq_mul_right (by omega) e
  exact Prod.ext e1 e2
theorem low_dvd {a b : Int} : ((Int.gcd a b : Int) ∣ (if b > 0 then 1 else -1) * a) ∧ ((Int.gcd a b : Int) ∣ (if b > 0 then 1 else -1) * b) :=
  ⟨Int.dvd_trans (Int.gcd_dvd_left a b) (Int.dvd_mul_left _ a), Int.dvd_trans (Int.gcd_dvd_right a b) (Int.dvd_mul_left _ b)⟩
theorem gcd_ne {a b : Int} (hb : b ≠ 0) : (Int.gcd a b : Int) ≠ 0 := fun z => hb (Int.gcd_eq_zero_iff.mp (show Int.gcd a b = 0 by omega)).2
/-- low a b, told by its factors -/
theorem low_fac {a b : Int} (hb : b ≠ 0) : ∃ s g : Int, (s = 1 ∨ s = -1) ∧ 0 < g ∧ s * b > 0 ∧ g * (low a b).1 = s * a ∧ g * (low a b).2 = s * b ∧ g = Int.gcd a b := by
  obtain ⟨d1, d2⟩ := low_dvd (a := a) (b := b)
  refine ⟨if b > 0 then 1 else -1, Int.gcd a b, ?_, ?_, ?_, Int.mul_ediv_cancel' d1, Int.mul_ediv_cancel' d2, rfl⟩
  · split <;> simp
  · have := gcd_ne (a := a) hb; omega
  · split <;> omega
theorem cn_low {a b : Int} (hb : b ≠ 0) : CnQ (low a b) := by
  obtain ⟨s, g, hs, hg, hsb, e1, e2, eg⟩ := low_fac (a := a) hb
  refine ⟨?_, ?_⟩
  · have : 0 < g * (low a b).2 := by rw [e2]; exact hsb
    exact Int.pos_of_mul_pos_right this (by omega)
  · have k : Int.gcd (g * (low a b).1) (g * (low a b).2) = Int.gcd a b := by
      rw [e1, e2]
      rcases hs with rfl | rfl
      · rw [Int.one_mul, Int.one_mul]
      · rw [Int.neg_one_mul, Int.neg_one_mul, Int.neg_gcd, Int.gcd_neg]
    rw [Int.gcd_mul_left] at k
    have hg2 : g.natAbs = Int.gcd a b := by omega
    rw [hg2] at k
    have hg0 : 0 < Int.gcd a b := by omega
    exact Nat.eq_of_mul_eq_mul_left hg0 (by omega)
theorem vl_low {a b : Int} (hb : b ≠ 0) : vl (low a b) = (a : Rat) / (b : Rat) := by
  obtain ⟨s, g, hs, hg, hsb, e1, e2, eg⟩ := low_fac (a := a) hb
  have n1 := ratne hb
  have n2 := (cn_low (a := a) hb).ne
  have e : (low a b).1 * b = a * (low a b).2 := by
    have h : g * ((low a b).1 * b) = g * (a * (low a b).2) := by
      calc g * ((low a b).1 * b) = (g * (low a b).1) * b := by rw [Int.mul_assoc]
        _ = (s * a) * b := by rw [e1]
        _ = a * (s * b) := by rw [Int.mul_comm s a, Int.mul_assoc]
        _ = a * (g * (low a b).2) := by rw [e2]
        _ = g * (a * (low a b).2) := by rw [← Int.mul_assoc, Int.mul_comm a g, Int.mul_assoc]
    exact Int.eq_of_mul_eq_mul_left (by omega) h
  have e' : ((low a b).1 : Rat) * (b : Rat) = (a : Rat) * ((low a b).2 : Rat) := by
    rw [← Rat.intCast_mul, ← Rat.intCast_mul, e]
  unfold vl
  grind
section
variable {x y : Q2}
theorem mulne (hx : CnQ x) (hy : CnQ y) : x.2 * y.2 ≠ 0 := by
  have a := hx.pos
  have b := hy.pos
  exact Int.ne_of_gt (Int.mul_pos a b)
theorem cn_plus (hx : CnQ x) (hy : CnQ y) : CnQ (plus x y) := cn_low (mulne hx hy)
theorem cn_less (hx : CnQ x) (hy : CnQ y) : CnQ (less x y) := cn_low (mulne hx hy)
theorem cn_times (hx : CnQ x) (hy : CnQ y) : CnQ (times x y) := cn_low (mulne hx hy)
theorem cn_over (hx : CnQ x) (hy : CnQ y) (h : y.1 ≠ 0) : CnQ (over x y) := cn_low (Int.mul_ne_zero (by have := hx.pos; omega) h)
theorem vl_plus (hx : CnQ x) (hy : CnQ y) : vl (plus x y) = vl x + vl y := by
  have nx := hx.ne
  have ny := hy.ne
  unfold plus
  rw [vl_low (mulne hx hy), Rat.intCast_add, Rat.intCast_mul, Rat.intCast_mul, Rat.intCast_mul]
  unfold vl
  grind
theorem vl_less (hx : CnQ x) (hy : CnQ y) : vl (less x y) = vl x - vl y := by
  have nx := hx.ne
  have ny := hy.ne
  unfold less
  rw [vl_low (mulne hx hy), Rat.intCast_sub, Rat.intCast_mul, Rat.intCast_mul, Rat.intCast_mul]
  unfold vl
  grind
theorem vl_times (hx : CnQ x) (hy : CnQ y) : vl (times x y) = vl x * vl y := by
  have nx := hx.ne
  have ny := hy.ne
  unfold times
  rw [vl_low (mulne hx hy), Rat.intCast_mul, Rat.intCast_mul]
  unfold vl
  grind
theorem vl_over (hx : CnQ x) (hy : CnQ y) (h : y.1 ≠ 0) : vl (over x y) = vl x / vl y := by
  have nx := hx.ne
  have ny := hy.ne
  have n1 := ratne h
  unfold over
  rw [vl_low (Int.mul_ne_zero (by have := hx.pos; omega) h), Rat.intCast_mul, Rat.intCast_mul]
  unfold vl
  grind
end
theorem cn_int (a : Int) : CnQ (a, 1) := ⟨show (0 : Int) < 1 by decide, by simp⟩
theorem vl_int (a : Int) : vl (a, 1) = (a : Rat) := by
  show (a : Rat) / ((1 : Int) : Rat) = a
  have e : ((1 : Int) : Rat) = 1 := rfl
  rw [e]
  grind
theorem vl_0 : vl (0, 1) = 0 := by rw [vl_int]; rfl
theorem vl_1 : vl (1, 1) = 1 := by rw [vl_int]; rfl
theorem cn_org : CnA org := ⟨cn_int 0, cn_int 0⟩
theorem cn_lone : CnA lone := ⟨cn_int 1, cn_int 0⟩
section
variable {z w : A2} {m : Q2}
theorem cn_summed (hz : CnA z) (hw : CnA w) : CnA (summed z w) := ⟨cn_plus hz.1 hw.1, cn_plus hz.2 hw.2⟩
theorem cn_off (hz : CnA z) (hw : CnA w) : CnA (off z w) := ⟨cn_less hz.1 hw.1, cn_less hz.2 hw.2⟩
theorem cn_mate (hz : CnA z) : CnA (mate z) := ⟨hz.1, cn_less (cn_int 0) hz.2⟩
theorem cn_made (hz : CnA z) (hw : CnA w) : CnA (made z w) := ⟨cn_less (cn_times hz.1 hw.1) (cn_times hz.2 hw.2), cn_plus (cn_times hz.1 hw.2) (cn_times hz.2 hw.1)⟩
theorem cn_often (hz : CnA z) (hm : CnQ m) : CnA (often z m) := ⟨cn_times hz.1 hm, cn_times hz.2 hm⟩
theorem cn_weight (hz : CnA z) : CnQ (weight z) := cn_plus (cn_times hz.1 hz.1) (cn_times hz.2 hz.2)
theorem mate_eq (hz : CnA z) : mate z = mateL z := by
  refine Prod.ext rfl ?_
  show less (0, 1) z.2 = (0 - z.2.1, z.2.2)
  have c : CnQ (0 - z.2.1, z.2.2) := ⟨hz.2.pos, by rw [Int.zero_sub, Int.neg_gcd]; exact hz.2.low⟩
  refine cn_ext (cn_less (cn_int 0) hz.2) c ?_
  rw [vl_less (cn_int 0) hz.2, vl_0]
  unfold vl
  show _ = ((0 - z.2.1 : Int) : Rat) / _
  rw [Rat.intCast_sub]
  have := hz.2.ne
  grind
end
/-- rows in lowest terms -/
def CnL (l : List A2) : Prop := ∀ x ∈ l, CnA x
theorem cn_ent {l : List A2} (h : CnL l) (k : Int) : CnA (ent l k) := by
  unfold ent
  split
  · rename_i hk
    have hl : k.toNat < l.length := by omega
    rw [List.getD_eq_getElem?_getD, List.getElem?_eq_getElem hl]
    exact h _ (List.getElem_mem hl)
  · exact cn_org
/-! ### the rest by powers, the rest by division -/
structure CnS (s : RSt) : Prop where
  f0 : CnA s.f0
  f1 : CnA s.f1
  w : CnQ s.w
theorem cn_r0 : CnS r0 := ⟨cn_org, cn_org, cn_int 1⟩
theorem cn_step {h : Q2} {s : RSt} {z : A2} {k : Nat} (hh : CnQ h) (hs : CnS s) (hz : CnA z) : CnS (rStep h s k z) := by
  unfold rStep
  split
  · exact ⟨cn_summed hs.f0 (cn_often hz hs.w), hs.f1, hs.w⟩
  · exact ⟨hs.f0, cn_summed hs.f1 (cn_often hz hs.w), cn_less (cn_int 0) (cn_times hs.w hh)⟩
theorem rGo_app (h : Q2) : ∀ (xs ys : List A2) (k : Nat) (s : RSt), rGo h (xs ++ ys) k s = rGo h ys (k + xs.length) (rGo h xs k s)
  | [], ys, k, s => rfl
  | x :: xs, ys, k, s => by
    show rGo h (xs ++ ys) (k + 1) (rStep h s k x) = _
    rw [rGo_app h xs ys]
    show rGo h ys (k + 1 + xs.length) _ = rGo h ys (k + (xs.length + 1)) _
    rw [show k + 1 + xs.length = k + (xs.length + 1) by omega]
    rfl
theorem cn_rGo {h : Q2} (hh : CnQ h) : ∀ (xs : List A2) (k : Nat) (s : RSt), CnL xs → CnS s → CnS (rGo h xs k s)
  | [], _, _, _, hs => hs
  | x :: xs, k, s, hx, hs => cn_rGo hh xs (k + 1) _ (fun y hy => hx y (List.mem_cons_of_mem _ hy)) (cn_step hh hs (hx x List.mem_cons_self))
theorem cnA_ext {z w : A2} (hz : CnA z) (hw : CnA w) (h1 : vl z.1 = vl w.1) (h2 : vl z.2 = vl w.2) : z = w := Prod.ext (cn_ext hz.1 hw.1 h1) (cn_ext hz.2 hw.2 h2)
/-- three steps at the top against the two of the divided one -/
theorem rTop {h : Q2} {s : RSt} {z b c : A2} {k : Nat} (hh : CnQ h) (hs : CnS s) (hz : CnA z) (hb : CnA b) (hc : CnA c) :
    (rStep h (rStep h (rStep h s k c) (k + 1) b) (k + 2) z).f0 = (rStep h (rStep h s k (off c (often z h))) (k + 1) b).f0 ∧ (rStep h (rStep h (rStep h s k c) (k + 1) b) (k + 2) z).f1 = (rStep h (rStep h s k (off c (often z h))) (k + 1) b).f1 := by
  have cw := hs.w
  have ct := cn_times cw hh
  have cl := cn_less (cn_int 0) ct
  have czh := cn_often hz hh
  have coz := cn_off hc czh
  by_cases hk : k % 2 = 0
  · have k1 : ¬ (k + 1) % 2 = 0 := by omega
    have k2 : (k + 2) % 2 = 0 := by omega
    have e1 : ∀ x, rStep h s k x = ⟨summed s.f0 (often x s.w), s.f1, s.w⟩ := fun x => if_pos hk
    rw [e1, e1]
    have e2 : ∀ (s : RSt) x, rStep h s (k + 1) x = ⟨s.f0, summed s.f1 (often x s.w), less (0, 1) (times s.w h)⟩ := fun s x => if_neg k1
    rw [e2, e2]
    have e3 : ∀ (s : RSt) x, rStep h s (k + 2) x = ⟨summed s.f0 (often x s.w), s.f1, s.w⟩ := fun s x => if_pos k2
    rw [e3]
    refine ⟨?_, rfl⟩
    have c1 := cn_summed hs.f0 (cn_often hc cw)
    refine cnA_ext (cn_summed c1 (cn_often hz cl)) (cn_summed hs.f0 (cn_often coz cw)) ?_ ?_
    · show vl (plus (plus s.f0.1 (times c.1 s.w)) (times z.1 (less (0, 1) (times s.w h)))) = vl (plus s.f0.1 (times (less c.1 (times z.1 h)) s.w))
      rw [vl_plus (show CnQ (plus s.f0.1 (times c.1 s.w)) from c1.1) (cn_times hz.1 cl), vl_plus hs.f0.1 (cn_times hc.1 cw), vl_times hc.1 cw, vl_times hz.1 cl, vl_less (cn_int 0) ct, vl_times cw hh, vl_0, vl_plus hs.f0.1 (cn_times (show CnQ (less c.1 (times z.1 h)) from coz.1) cw), vl_times (show CnQ (less c.1 (times z.1 h)) from coz.1) cw, vl_less hc.1 (cn_times hz.1 hh), vl_times hz.1 hh]
      grind
    · show vl (plus (plus s.f0.2 (times c.2 s.w)) (times z.2 (less (0, 1) (times s.w h)))) = vl (plus s.f0.2 (times (less c.2 (times z.2 h)) s.w))
      rw [vl_plus (show CnQ (plus s.f0.2 (times c.2 s.w)) from c1.2) (cn_times hz.2 cl), vl_plus hs.f0.2 (cn_times hc.2 cw), vl_times hc.2 cw, vl_times hz.2 cl, vl_less (cn_int 0) ct, vl_times cw hh, vl_0, vl_plus hs.f0.2 (cn_times (show CnQ (less c.2 (times z.2 h)) from coz.2) cw), vl_times (show CnQ (less c.2 (times z.2 h)) from coz.2) cw, vl_less hc.2 (cn_times hz.2 hh), vl_times hz.2 hh]
      grind
  · have k1 : (k + 1) % 2 = 0 := by omega
    have k2 : ¬ (k + 2) % 2 = 0 := by omega
    have e1 : ∀ x, rStep h s k x = ⟨s.f0, summed s.f1 (often x s.w), less (0, 1) (times s.w h)⟩ := fun x => if_neg hk
    rw [e1, e1]
    have e2 : ∀ (s : RSt) x, rStep h s (k + 1) x = ⟨summed s.f0 (often x s.w), s.f1, s.w⟩ := fun s x => if_pos k1
    rw [e2, e2]
    have e3 : ∀ (s : RSt) x, rStep h s (k + 2) x = ⟨s.f0, summed s.f1 (often x s.w), less (0, 1) (times s.w h)⟩ := fun s x => if_neg k2
    rw [e3]
    refine ⟨rfl, ?_⟩
    have c1 := cn_summed hs.f1 (cn_often hc cw)
    refine cnA_ext (cn_summed c1 (cn_often hz cl)) (cn_summed hs.f1 (cn_often coz cw)) ?_ ?_
    · show vl (plus (plus s.f1.1 (times c.1 s.w)) (times z.1 (less (0, 1) (times s.w h)))) = vl (plus s.f1.1 (times (less c.1 (times z.1 h)) s.w))
      rw [vl_plus (show CnQ (plus s.f1.1 (times c.1 s.w)) from c1.1) (cn_times hz.1 cl), vl_plus hs.f1.1 (cn_times hc.1 cw), vl_times hc.1 cw, vl_times hz.1 cl, vl_less (cn_int 0) ct, vl_times cw hh, vl_0, vl_plus hs.f1.1 (cn_times (show CnQ (less c.1 (times z.1 h)) from coz.1) cw), vl_times (show CnQ (less c.1 (times z.1 h)) from coz.1) cw, vl_less hc.1 (cn_times hz.1 hh), vl_times hz.1 hh]
      grind
    · show vl (plus (plus s.f1.2 (times c.2 s.w)) (times z.2 (less (0, 1) (times s.w h)))) = vl (plus s.f1.2 (times (less c.2 (times z.2 h)) s.w))
      rw [vl_plus (show CnQ (plus s.f1.2 (times c.2 s.w)) from c1.2) (cn_times hz.2 cl), vl_plus hs.f1.2 (cn_times hc.2 cw), vl_times hc.2 cw, vl_times hz.2 cl, vl_less (cn_int 0) ct, vl_times cw hh, vl_0, vl_plus hs.f1.2 (cn_times (show CnQ (less c.2 (times z.2 h)) from coz.2) cw), vl_times (show CnQ (less c.2 (times z.2 h)) from coz.2) cw, vl_less hc.2 (cn_times hz.2 hh), vl_times hz.2 hh]
      grind
theorem cn_div {h : Q2} (hh : CnQ h) : ∀ (n : Nat) (l : List A2), l.length = n → CnL l → CnL (divR h l).1 ∧ CnL (divR h l).2 := by
  intro n
  induction n with
  | zero => intro l hl hc; rw [divR_end h (by omega)]; exact ⟨hc, fun x hx => by cases hx⟩
  | succ n ih =>
    intro l hl hc
    match l, hl, hc with
    | [a], _, hc => rw [divR_end h (by simp)]; exact ⟨hc, fun x hx => by cases hx⟩
    | [a, b], _, hc => rw [divR_end h (by simp)]; exact ⟨hc, fun x hx => by cases hx⟩
    | z :: b :: c :: r, hl, hc =>
      have hz := hc z (by simp)
      have hcc := hc c (by simp)
      have hc' : CnL (b :: off c (often z h) :: r) := fun x hx => by
        rcases List.mem_cons.mp hx with rfl | hx
        · exact hc x (by simp)
        · rcases List.mem_cons.mp hx with rfl | hx
          · exact cn_off hcc (cn_often hz hh)
          · exact hc x (by simp [hx])
      obtain ⟨h1, h2⟩ := ih _ (by simpa using hl) hc'
      rw [divR_step]
      refine ⟨h1, fun x hx => ?_⟩
      rcases List.mem_cons.mp hx with rfl | hx
      · exact hz
      · exact h2 x hx
theorem summed_org {z : A2} (hz : CnA z) : summed org (often z (1, 1)) = z := by
  refine cnA_ext (cn_summed cn_org (cn_often hz (cn_int 1))) hz ?_ ?_
  · show vl (plus (0, 1) (times z.1 (1, 1))) = vl z.1
    rw [vl_plus (cn_int 0) (cn_times hz.1 (cn_int 1)), vl_times hz.1 (cn_int 1), vl_0, vl_1]; grind
  · show vl (plus (0, 1) (times z.2 (1, 1))) = vl z.2
    rw [vl_plus (cn_int 0) (cn_times hz.2 (cn_int 1)), vl_times hz.2 (cn_int 1), vl_0, vl_1]; grind
theorem rest_div {h : Q2} (hh : CnQ h) : ∀ (n : Nat) (l : List A2), l.length = n → CnL l → restP h l.reverse = (ent (divR h l).1.reverse 0, ent (divR h l).1.reverse 1) := by
  intro n
  induction n with
  | zero =>
    intro l hl hc
    match l, hl with
    | [], _ => rw [divR_end h (by simp)]; rfl
  | succ n ih =>
    intro l hl hc
    match l, hl, hc with
    | [a], _, hc =>
      rw [divR_end h (by simp)]
      show (summed org (often a (1, 1)), org) = (a, org)
      rw [summed_org (hc a (by simp))]
    | [a, b], _, hc =>
      rw [divR_end h (by simp)]
      show (summed org (often b (1, 1)), summed org (often a (1, 1))) = (b, a)
      rw [summed_org (hc a (by simp)), summed_org (hc b (by simp))]
    | z :: b :: c :: r, hl, hc =>
      have hz := hc z (by simp)
      have hb := hc b (by simp)
      have hcc := hc c (by simp)
      have hr : CnL r.reverse := fun x hx => hc x (by simp at hx; simp [hx])
      have hc' : CnL (b :: off c (often z h) :: r) := fun x hx => by
        rcases List.mem_cons.mp hx with rfl | hx
        · exact hb
        · rcases List.mem_cons.mp hx with rfl | hx
          · exact cn_off hcc (cn_often hz hh)
          · exact hc x (by simp [hx])
      have q := ih _ (by simpa using hl) hc'
      rw [divR_step]
      show restP h (z :: b :: c :: r).reverse = (ent (divR h (b :: off c (often z h) :: r)).1.reverse 0, ent (divR h (b :: off c (often z h) :: r)).1.reverse 1)
      rw [← q]
      have e1 : (z :: b :: c :: r).reverse = r.reverse ++ [c, b, z] := by simp
      have e2 : (b :: off c (often z h) :: r).reverse = r.reverse ++ [off c (often z h), b] := by simp
      unfold restP
      rw [e1, e2, rGo_app, rGo_app]
      obtain ⟨t1, t2⟩ := rTop (k := 0 + r.reverse.length) hh (cn_rGo hh r.reverse 0 r0 hr cn_r0) hz hb hcc
      exact Prod.ext t1 t2
theorem rest_eq {h : Q2} {row : List A2} (hh : CnQ h) (hr : CnL row) : restP h row = restL h row := by
  have q := rest_div hh _ row.reverse rfl (fun x hx => hr x (by simpa using hx))
  rw [List.reverse_reverse] at q
  exact q
theorem cn_quot {h : Q2} {row : List A2} (hh : CnQ h) (hr : CnL row) : CnL (quot h row) := fun x hx => by
  unfold quot at hx
  exact (cn_div hh _ row.reverse rfl (fun y hy => hr y (by simpa using hy))).2 x (by simpa using hx)
theorem cn_restL {h : Q2} {row : List A2} (hh : CnQ h) (hr : CnL row) : CnA (restL h row).1 ∧ CnA (restL h row).2 := by
  have q := (cn_div hh _ row.reverse rfl (fun y hy => hr y (by simpa using hy))).1
  have q2 : CnL (divR h row.reverse).1.reverse := fun x hx => q x (by simpa using hx)
  exact ⟨cn_ent q2 0, cn_ent q2 1⟩
theorem cn_mateL {z : A2} (hz : CnA z) : CnA (mateL z) := by rw [← mate_eq hz]; exact cn_mate hz
theorem lows_eq {p q : List A2} {z : A2} (hq : CnL q) : lows mate p q z = lows mateL p q z := by
  unfold lows
  apply List.map_congr_left
  intro k _
  rw [mate_eq (cn_ent hq _)]
theorem highs_eq {p q : List A2} {z : A2} (hp : CnL p) : highs mate p q z = highs mateL p q z := by
  unfold highs
  apply List.map_congr_left
  intro k _
  rw [mate_eq (cn_ent hp _)]
theorem cn_lows {p q : List A2} {z : A2} (hp : CnL p) (hq : CnL q) (hz : CnA z) : CnL (lows mateL p q z) := fun x hx => by
  unfold lows at hx
  obtain ⟨k, _, rfl⟩ := List.mem_map.mp hx
  exact cn_summed (cn_ent hp _) (cn_made hz (cn_mateL (cn_ent hq _)))
theorem cn_highs {p q : List A2} {z : A2} (hp : CnL p) (hq : CnL q) (hz : CnA z) : CnL (highs mateL p q z) := fun x hx => by
  unfold highs at hx
  obtain ⟨k, _, rfl⟩ := List.mem_map.mp hx
  exact cn_off (cn_ent hq _) (cn_made hz (cn_mateL (cn_ent hp _)))
theorem front_eq {y1 x1 y2 x2 : A2} {h : Q2} (h1 : CnA x1) (h2 : CnA x2) : frontA mate y1 x1 y2 x2 h = frontA mateL y1 x1 y2 x2 h := by
  unfold frontA
  rw [mate_eq h1, mate_eq h2]
theorem num_ne {x : Q2} (hx : CnQ x) (h : x ≠ (0, 1)) : x.1 ≠ 0 := fun z => by
  have l := hx.low
  rw [z, Int.gcd_zero_left] at l
  have p := hx.pos
  exact h (Prod.ext z (show x.2 = 1 by omega))
theorem cn_front {mt : A2 → A2} {y1 x1 y2 x2 z : A2} {h : Q2} (a1 : CnA y1) (b1 : CnA x1) (a2 : CnA y2) (b2 : CnA x2) (e : frontA mt y1 x1 y2 x2 h = some z) : CnA z := by
  unfold frontA at e
  split at e
  · cases e
  · rename_i n
    split at e
    · cases e
    · split at e
      · have c := cn_plus (cn_weight b1) (cn_weight b2)
        rw [← Option.some.inj e]
        exact cn_often (cn_off (cn_made a2 b1) (cn_made a1 b2)) (cn_over (cn_int 1) c (num_ne c n))
      · cases e
theorem run_eq : ∀ (hs : List Q2) (k : Nat) (p q : List A2), (∀ h ∈ hs, CnQ h) → CnL p → CnL q → runB mate restP hs k p q = runB mateL restL hs k p q
  | [], k, p, q, _, _, _ => by rw [runB_nil, runB_nil]
  | h :: hs, k, p, q, hh, hp, hq => by
    have ch := hh h List.mem_cons_self
    have ef : frontA mate (restP h p).1 (restP h p).2 (restP h q).1 (restP h q).2 h = frontA mateL (restL h p).1 (restL h p).2 (restL h q).1 (restL h q).2 h := by
      rw [rest_eq ch hp, rest_eq ch hq]
      exact front_eq (cn_restL ch hp).2 (cn_restL ch hq).2
    cases e : frontA mateL (restL h p).1 (restL h p).2 (restL h q).1 (restL h q).2 h with
    | none => rw [runB_none e, runB_none (ef.trans e)]
    | some z =>
      rw [runB_some e, runB_some (ef.trans e), lows_eq hq, highs_eq hp]
      have cz := cn_front (cn_restL ch hp).1 (cn_restL ch hp).2 (cn_restL ch hq).1 (cn_restL ch hq).2 e
      rw [run_eq hs (k + 1) _ _ (fun x hx => hh x (List.mem_cons_of_mem _ hx)) (cn_quot ch (cn_lows hp hq cz)) (cn_quot ch (cn_highs hp hq cz))]
theorem run_len {mt : A2 → A2} {rs : Q2 → List A2 → A2 × A2} : ∀ (hs : List Q2) (k : Nat) (p q zs p' q' : List A2), p.length = hs.length + 1 → q.length = hs.length → runB mt rs hs k p q = .ok (zs, p', q') → q' = []
  | [], k, p, q, zs, p', q', _, hq, e => by
    rw [runB_nil] at e
    injection e with e
    injection e with _ e
    injection e with _ e
    rw [← e]
    exact List.eq_nil_of_length_eq_zero (by simpa using hq)
  | h :: hs, k, p, q, zs, p', q', hp, hq, e => by
    simp only [List.length_cons] at hp hq
    cases f : frontA mt (rs h p).1 (rs h p).2 (rs h q).1 (rs h q).2 h with
    | none => rw [runB_none f] at e; cases e
    | some z =>
      rw [runB_some f] at e
      cases r : runB mt rs hs (k + 1) (quot h (lows mt p q z)) (quot h (highs mt p q z)) with
      | error m => rw [r] at e; cases e
      | ok a =>
        obtain ⟨ys, p2, q2⟩ := a
        rw [r] at e
        have e2 : (Except.ok ([z] ++ ys, p2, q2) : Except Nat (List A2 × List A2 × List A2)) = .ok (zs, p', q') := e
        injection e2 with e2
        injection e2 with _ e2
        injection e2 with _ e2
        rw [← e2]
        exact run_len hs _ _ _ _ _ _ (by rw [quot_len, lows_len]; omega) (by rw [quot_len, highs_len]; omega) r
theorem built_eq {hs : List Q2} {p q : List A2} (hh : ∀ h ∈ hs, CnQ h) (hp : CnL p) (hq : CnL q) : builtP hs p q = builtL hs p q := by
  by_cases hL : Lens hs p q
  · have er := run_eq hs 0 p q hh hp hq
    cases e : runB mateL restL hs 0 p q with
    | error k => rw [builtL_err hL e, builtP_err hL (er.trans e)]
    | ok a =>
      obtain ⟨zs, p', q'⟩ := a
      rw [builtL_ok hL e, builtP_ok hL (er.trans e)]
      have e0 : q' = [] := run_len hs 0 p q zs p' q' hL.1 hL.2 e
      by_cases h1 : p' = [lone]
      · rw [if_pos h1, if_pos ⟨h1, e0⟩]
      · rw [if_neg h1, if_neg fun z => h1 z.1]
  · rw [builtL_len hL, builtP_len hL]
end Ct
/-! The plain mathematics, second part: how large the numbers get: a common denominator N, numerators over it below 2^t. -/
namespace Ct
def InQ (N t : Nat) (x : Q2) : Prop := CnQ x ∧ ∃ a : Int, vl x * ((N : Int) : Rat) = (a : Rat) ∧ a.natAbs < 2 ^ t
def InA (N t : Nat) (z : A2) : Prop := InQ N t z.1 ∧ InQ N t z.2
theorem InA.cn {N t : Nat} {z : A2} (h : InA N t z) : CnA z := ⟨h.1.1, h.2.1⟩
section
variable {N M t s n m : Nat} {x y : Q2} {z w : A2}
theorem in_sz (h : InQ N t x) (h0 : 0 < N) (hN : N < 2 ^ n) (hn : n ≤ 200000) (ht : t ≤ 200000) : Sz x := by
  obtain ⟨c, a, e, ha⟩ := h
  have p := c.pos
  have ei : x.1 * (N : Int) = a * x.2 := by
    have nx := c.ne
    unfold vl at e
    apply Rat.intCast_inj.mp
    rw [Rat.intCast_mul, Rat.intCast_mul]
    grind
  have d : x.2 ∣ (N : Int) := coprime_dvd c.low ⟨a, by rw [Int.mul_comm (N : Int) x.1, ei, Int.mul_comm]⟩
  obtain ⟨k, hk⟩ := d
  have k0 : 0 < k := by
    have : 0 < x.2 * k := by rw [← hk]; omega
    exact Int.pos_of_mul_pos_right this (by omega)
  have e2 : x.1 * k = a := by
    rw [hk, ← Int.mul_assoc, Int.mul_comm x.1 x.2, Int.mul_assoc, Int.mul_comm a x.2] at ei
    exact Int.eq_of_mul_eq_mul_left (by omega) ei
  have l1 : x.1.natAbs ≤ a.natAbs := by
    rw [← e2, Int.natAbs_mul]
    exact Nat.le_mul_of_pos_right _ (by omega)
  have l2 : x.2.natAbs ≤ N := by
    have q : (N : Int).natAbs = x.2.natAbs * k.natAbs := by rw [hk, Int.natAbs_mul]
    have r : N = x.2.natAbs * k.natAbs := by rw [← q]; rfl
    rw [r]
    exact Nat.le_mul_of_pos_right _ (by omega)
  exact ⟨Nat.lt_of_le_of_lt l1 (Nat.lt_of_lt_of_le ha (Nat.pow_le_pow_right (by decide) ht)), Nat.lt_of_le_of_lt l2 (Nat.lt_of_lt_of_le hN (Nat.pow_le_pow_right (by decide) hn)), p⟩
theorem inA_sz (h : InA N t z) (h0 : 0 < N) (hN : N < 2 ^ n) (hn : n ≤ 200000) (ht : t ≤ 200000) : SzA z := ⟨in_sz h.1 h0 hN hn ht, in_sz h.2 h0 hN hn ht⟩
theorem in_mono (h : InQ N t x) (l : t ≤ s) : InQ N s x := by
  obtain ⟨c, a, e, ha⟩ := h
  exact ⟨c, a, e, Nat.lt_of_lt_of_le ha (Nat.pow_le_pow_right (by decide) l)⟩
theorem inA_mono (h : InA N t z) (l : t ≤ s) : InA N s z := ⟨in_mono h.1 l, in_mono h.2 l⟩
theorem in_mul (h : InQ N t x) (M : Nat) (h0 : 0 < M) (hM : M ≤ 2 ^ m) : InQ (N * M) (t + m) x := by
  obtain ⟨c, a, e, ha⟩ := h
  refine ⟨c, a * (M : Int), ?_, ?_⟩
  · rw [Int.natCast_mul, Rat.intCast_mul, Rat.intCast_mul, ← e]
    grind
  · rw [Int.natAbs_mul, Nat.pow_add]
    exact Nat.mul_lt_mul_of_lt_of_le ha hM (Nat.two_pow_pos m)
theorem inA_mul (h : InA N t z) (M : Nat) (h0 : 0 < M) (hM : M ≤ 2 ^ m) : InA (N * M) (t + m) z := ⟨in_mul h.1 M h0 hM, in_mul h.2 M h0 hM⟩
theorem two_pow (t : Nat) : (2 : Nat) ^ (t + 1) = 2 ^ t + 2 ^ t := by rw [Nat.pow_succ]; omega
theorem in_plus (h : InQ N t x) (g : InQ N t y) : InQ N (t + 1) (plus x y) := by
  obtain ⟨c, a, e, ha⟩ := h
  obtain ⟨d, b, f, hb⟩ := g
  refine ⟨cn_plus c d, a + b, ?_, ?_⟩
  · rw [vl_plus c d, Rat.intCast_add, ← e, ← f]; grind
  · have := Int.natAbs_add_le a b
    rw [two_pow]; omega
theorem in_less (h : InQ N t x) (g : InQ N t y) : InQ N (t + 1) (less x y) := by
  obtain ⟨c, a, e, ha⟩ := h
  obtain ⟨d, b, f, hb⟩ := g
  refine ⟨cn_less c d, a - b, ?_, ?_⟩
  · rw [vl_less c d, Rat.intCast_sub, ← e, ← f]; grind
  · have := Int.natAbs_sub_le a b
    rw [two_pow]; omega
theorem in_neg (h : InQ N t x) : InQ N t (less (0, 1) x) := by
  obtain ⟨c, a, e, ha⟩ := h
  refine ⟨cn_less (cn_int 0) c, -a, ?_, by rw [Int.natAbs_neg]; exact ha⟩
  rw [vl_less (cn_int 0) c, vl_0, Rat.intCast_neg, ← e]; grind
theorem in_times (h : InQ N t x) (g : InQ M s y) : InQ (N * M) (t + s) (times x y) := by
  obtain ⟨c, a, e, ha⟩ := h
  obtain ⟨d, b, f, hb⟩ := g
  refine ⟨cn_times c d, a * b, ?_, ?_⟩
  · rw [vl_times c d, Rat.intCast_mul, Int.natCast_mul, Rat.intCast_mul, ← e, ← f]; grind
  · rw [Int.natAbs_mul, Nat.pow_add]
    exact Nat.mul_lt_mul'' ha hb
theorem in_zero (N t : Nat) : InQ N t (0, 1) := ⟨cn_int 0, 0, by rw [vl_0]; grind, Nat.two_pow_pos t⟩
theorem inA_org (N t : Nat) : InA N t org := ⟨in_zero N t, in_zero N t⟩
theorem inA_summed (h : InA N t z) (g : InA N t w) : InA N (t + 1) (summed z w) := ⟨in_plus h.1 g.1, in_plus h.2 g.2⟩
theorem inA_off (h : InA N t z) (g : InA N t w) : InA N (t + 1) (off z w) := ⟨in_less h.1 g.1, in_less h.2 g.2⟩
theorem inA_often (h : InA N t z) (g : InQ M s x) : InA (N * M) (t + s) (often z x) := ⟨in_times h.1 g, in_times h.2 g⟩
theorem inA_made (h : InA N t z) (g : InA M s w) : InA (N * M) (t + s + 1) (made z w) := ⟨in_less (in_times h.1 g.1) (in_times h.2 g.2), in_plus (in_times h.1 g.2) (in_times h.2 g.1)⟩
theorem in_weight (h : InA N t z) : InQ (N * N) (t + t + 1) (weight z) := in_plus (in_times h.1 h.1) (in_times h.2 h.2)
theorem inA_mateL (h : InA N t z) : InA N t (mateL z) := by
  rw [← mate_eq h.cn]
  exact ⟨h.1, in_neg h.2⟩
theorem inA_ent {l : List A2} (h : ∀ x ∈ l, InA N t x) (k : Int) : InA N t (ent l k) := by
  unfold ent
  split
  · have hl : k.toNat < l.length := by omega
    rw [List.getD_eq_getElem?_getD, List.getElem?_eq_getElem hl]
    exact h _ (List.getElem_mem hl)
  · exact inA_org N t
theorem sz_made (h : InA N t z) (g : InA M s w) (hN : 0 < N) (hM : 0 < M) (h1 : N < 2 ^ n) (h2 : M < 2 ^ m) (hn : n + m ≤ 200000) (ht : t + s ≤ 200000) : SzMade z w := by
  have h3 : N * M < 2 ^ (n + m) := by rw [Nat.pow_add]; exact Nat.mul_lt_mul'' h1 h2
  have h0 : 0 < N * M := Nat.mul_pos hN hM
  exact ⟨inA_sz h hN h1 (by omega) (by omega), inA_sz g hM h2 (by omega) (by omega), in_sz (in_times h.1 g.1) h0 h3 hn ht, in_sz (in_times h.2 g.2) h0 h3 hn ht, in_sz (in_times h.1 g.2) h0 h3 hn ht, in_sz (in_times h.2 g.1) h0 h3 hn ht⟩
theorem sz_weight (h : InA N t z) (hN : 0 < N) (h1 : N < 2 ^ n) (hn : n + n ≤ 200000) (ht : t + t ≤ 200000) : SzWeight z := by
  have h3 : N * N < 2 ^ (n + n) := by rw [Nat.pow_add]; exact Nat.mul_lt_mul'' h1 h1
  have h0 : 0 < N * N := Nat.mul_pos hN hN
  exact ⟨inA_sz h hN h1 (by omega) (by omega), in_sz (in_times h.1 h.1) h0 h3 hn ht, in_sz (in_times h.2 h.2) h0 h3 hn ht⟩
/-- one by a number -/
theorem in_over (h : InQ M s x) (hx : x.1 ≠ 0) (hM0 : 0 < M) (hM : M < 2 ^ m) : ∃ B : Nat, 0 < B ∧ B < 2 ^ s ∧ InQ B m (over (1, 1) x) ∧ ∀ (o : Q2) (u : Nat), InQ M u o → InQ B u (times o (over (1, 1) x)) := by
  obtain ⟨c, b, e, hb⟩ := h
  have nM : ((M : Int) : Rat) ≠ 0 := ratne (by omega)
  have n1 := ratne hx
  have n2 := c.ne
  have b0 : b ≠ 0 := fun z => by
    rw [z] at e
    have e0 : ((0 : Int) : Rat) = 0 := rfl
    unfold vl at e
    rw [e0] at e
    grind
  have nb := ratne b0
  have nv : vl x ≠ 0 := by unfold vl; grind
  have cv : CnQ (over (1, 1) x) := cn_over (cn_int 1) c hx
  have ev : vl (over (1, 1) x) = ((M : Int) : Rat) / (b : Rat) := by
    rw [vl_over (cn_int 1) c hx, vl_1]; grind
  -- the sign
  obtain ⟨sg, hsg, hB⟩ : ∃ sg : Int, (sg = 1 ∨ sg = -1) ∧ ((b.natAbs : Nat) : Int) = sg * b := by
    by_cases q : 0 ≤ b
    · exact ⟨1, .inl rfl, by omega⟩
    · exact ⟨-1, .inr rfl, by omega⟩
  have hBr : (((b.natAbs : Nat) : Int) : Rat) = (sg : Rat) * (b : Rat) := by rw [hB, Rat.intCast_mul]
  have abs_sg : ∀ k : Int, (sg * k).natAbs = k.natAbs := fun k => by
    rcases hsg with q | q <;> rw [q, Int.natAbs_mul] <;> simp
  refine ⟨b.natAbs, by omega, hb, ⟨cv, sg * (M : Int), ?_, ?_⟩, fun o u ⟨co, a, eo, ha⟩ => ⟨cn_times co cv, sg * a, ?_, ?_⟩⟩
  · rw [hBr, ev, Rat.intCast_mul]; grind
  · rw [abs_sg]; exact hM
  · rw [hBr, vl_times co cv, ev, Rat.intCast_mul, ← eo]; grind
  · rw [abs_sg]; exact ha
end
/-! ### division, the rest -/
theorem p36 (k : Nat) : 0 < 36 ^ k ∧ 36 ^ k ≤ 2 ^ (6 * k) := by
  refine ⟨Nat.pow_pos (by decide), ?_⟩
  rw [Nat.pow_mul]
  exact Nat.pow_le_pow_left (by decide) k
theorem SzD_end {h : Q2} {l : List A2} (hl : l.length ≤ 2) : SzD h l := by
  match l, hl with
  | [], _ => unfold SzD; trivial
  | [_], _ => unfold SzD; trivial
  | [_, _], _ => unfold SzD; trivial
theorem div_in {h : Q2} (hh : InQ 36 13 h) : ∀ (k N t n : Nat) (l : List A2), l.length ≤ k + 2 → (∀ x ∈ l, InA N t x) → 0 < N → N < 2 ^ n → n + 6 * k ≤ 200000 → t + 14 * k ≤ 200000 →
    SzD h l ∧ (∀ x ∈ (divR h l).1, InA (N * 36 ^ k) (t + 14 * k) x) ∧ (∀ x ∈ (divR h l).2, InA (N * 36 ^ k) (t + 14 * k) x) := by
  intro k
  induction k with
  | zero =>
    intro N t n l hl hx h0 hN hn ht
    rw [divR_end h (by omega)]
    exact ⟨SzD_end (by omega), fun x hx2 => by simpa using hx x hx2, fun x hx2 => by cases hx2⟩
  | succ k ih =>
    intro N t n l hl hx h0 hN hn ht
    have up : ∀ x, InA N t x → InA (N * 36 ^ (k + 1)) (t + 14 * (k + 1)) x := fun x q => inA_mono (inA_mul q _ (p36 (k + 1)).1 (p36 (k + 1)).2) (by omega)
    by_cases h2 : l.length ≤ 2
    · rw [divR_end h h2]
      exact ⟨SzD_end h2, fun x hx2 => up x (hx x hx2), fun x hx2 => by cases hx2⟩
    · match l, h2, hl, hx with
      | [], h2, _, _ => exact absurd (by simp) h2
      | [_], h2, _, _ => exact absurd (by simp) h2
      | [_, _], h2, _, _ => exact absurd (by simp) h2
      | z :: b :: c :: r, _, hl, hx =>
        have hz := hx z (by simp)
        have hc := hx c (by simp)
        have e36 : ∀ x, InA N t x → InA (N * 36) (t + 13) x := fun x q => inA_mono (inA_mul q 36 (by decide) (show 36 ≤ 2 ^ 6 by decide)) (by omega)
        have hzh := inA_often hz hh
        have hx' : ∀ x ∈ b :: off c (often z h) :: r, InA (N * 36) (t + 14) x := fun x hx2 => by
          rcases List.mem_cons.mp hx2 with rfl | hx2
          · exact inA_mono (e36 _ (hx _ (by simp))) (by omega)
          · rcases List.mem_cons.mp hx2 with rfl | hx2
            · exact inA_off (e36 _ hc) hzh
            · exact inA_mono (e36 _ (hx _ (by simp [hx2]))) (by omega)
        have hN2 : N * 36 < 2 ^ (n + 6) := by
          rw [Nat.pow_add]
          exact Nat.mul_lt_mul_of_lt_of_le hN (by decide) (by decide)
        obtain ⟨q1, q2, q3⟩ := ih (N * 36) (t + 14) (n + 6) _ (by simp at hl ⊢; omega) hx' (by omega) hN2 (by omega) (by omega)
        have eN : N * 36 * 36 ^ k = N * 36 ^ (k + 1) := by rw [Nat.pow_succ, Nat.mul_assoc, Nat.mul_comm 36]
        have et : t + 14 + 14 * k = t + 14 * (k + 1) := by omega
        rw [eN, et] at q2 q3
        rw [divR_step]
        refine ⟨?_, q2, fun x hx2 => ?_⟩
        · unfold SzD
          exact ⟨inA_sz hz h0 hN (by omega) (by omega), in_sz hh (by decide) (show 36 < 2 ^ 6 by decide) (by omega) (by omega), inA_sz hc h0 hN (by omega) (by omega), inA_sz hzh (by omega) hN2 (by omega) (by omega), q1⟩
        · rcases List.mem_cons.mp hx2 with rfl | hx2
          · exact up _ hz
          · exact q3 x hx2
theorem rest_in {h : Q2} (hh : InQ 36 13 h) {N t n : Nat} (h0 : 0 < N) (hN : N < 2 ^ n) (hn : n + 40 ≤ 200000) (ht : t + 100 ≤ 200000) : ∀ (row : List A2) (k : Nat) (s : RSt), (∀ x ∈ row, InA N t x) → k + row.length ≤ 8 → InQ (36 ^ (k / 2)) (13 * (k / 2) + 1) s.w →
    InA (N * 36 ^ 4) (t + 52 + k) s.f0 → InA (N * 36 ^ 4) (t + 52 + k) s.f1 → SzR h row k s := by
  intro row
  induction row with
  | nil => intro k s _ _ _ _ _; trivial
  | cons z row ih =>
    intro k s hx hk hw h1 h2
    simp only [List.length_cons] at hk
    have hz := hx z List.mem_cons_self
    have hj : k / 2 ≤ 3 := by omega
    generalize ej : k / 2 = j at hw hj
    have hN4 : N * 36 ^ 4 < 2 ^ (n + 24) := by
      rw [Nat.pow_add]
      exact Nat.mul_lt_mul_of_lt_of_le hN (show 36 ^ 4 ≤ 2 ^ 24 by decide) (by decide)
    have hN40 : 0 < N * 36 ^ 4 := Nat.mul_pos h0 (by decide)
    have hzw := inA_often hz hw
    have hzw4 : InA (N * 36 ^ 4) (t + 52) (often z s.w) := by
      have q := inA_mul hzw (36 ^ (4 - j)) (p36 _).1 (p36 _).2
      have e : N * 36 ^ j * 36 ^ (4 - j) = N * 36 ^ 4 := by rw [Nat.mul_assoc, ← Nat.pow_add, show j + (4 - j) = 4 by omega]
      rw [e] at q
      exact inA_mono q (by omega)
    have p1 := p36 j
    have p2 := p36 (j + 1)
    have lt1 : ∀ j, (36 : Nat) ^ j < 2 ^ (6 * j + 1) := fun j => Nat.lt_of_le_of_lt (p36 j).2 (Nat.pow_lt_pow_right (by decide) (by omega))
    have hwh := in_times hw hh
    have ew : 36 ^ j * 36 = 36 ^ (j + 1) := (Nat.pow_succ ..).symm
    rw [ew] at hwh
    have a1 : SzA z := inA_sz hz h0 hN (by omega) (by omega)
    have a2 : Sz s.w := in_sz hw p1.1 (lt1 j) (by omega) (by omega)
    have a3 : SzA (often z s.w) := inA_sz hzw4 hN40 hN4 (by omega) (by omega)
    have a4 : SzA s.f0 := inA_sz h1 hN40 hN4 (by omega) (by omega)
    have a5 : SzA s.f1 := inA_sz h2 hN40 hN4 (by omega) (by omega)
    have a6 : Sz h := in_sz hh (by decide) (show 36 < 2 ^ 6 by decide) (by omega) (by omega)
    have a7 : Sz (times s.w h) := in_sz hwh p2.1 (lt1 (j + 1)) (by omega) (by omega)
    refine ⟨a1, a2, a3, a4, a5, a6, a7, ?_⟩
    have up : ∀ {f : A2}, InA (N * 36 ^ 4) (t + 52 + k) f → InA (N * 36 ^ 4) (t + 52 + (k + 1)) (summed f (often z s.w)) := fun q => inA_summed (t := t + 52 + k) q (inA_mono hzw4 (show t + 52 ≤ t + 52 + k by omega))
    unfold rStep
    by_cases hm : k % 2 = 0
    · rw [if_pos hm]
      exact ih (k + 1) _ (fun x q => hx x (List.mem_cons_of_mem _ q)) (by omega) (by rw [show (k + 1) / 2 = j by omega]; exact hw) (up h1) (inA_mono h2 (by omega))
    · rw [if_neg hm]
      refine ih (k + 1) _ (fun x q => hx x (List.mem_cons_of_mem _ q)) (by omega) ?_ (inA_mono h1 (by omega)) (up h2)
      rw [show (k + 1) / 2 = j + 1 by omega]
      exact in_mono (in_neg hwh) (by omega)
end Ct
/-! The plain mathematics, third part: the sizes on the way of a whole. -/
namespace Ct
theorem front_in {N T n : Nat} {y1 x1 y2 x2 : A2} {h : Q2} (a1 : InA N T y1) (b1 : InA N T x1) (a2 : InA N T y2) (b2 : InA N T x2) (h0 : 0 < N) (hN : N < 2 ^ n) (hn : n + n ≤ 200000) (hT : 4 * T + 20 ≤ 200000) :
    SzF mateL y1 x1 y2 x2 h ∧ ∀ z, frontA mateL y1 x1 y2 x2 h = some z → ∃ B : Nat, 0 < B ∧ B < 2 ^ (T + T + 2) ∧ InA B (T + T + 2) z := by
  have hN2 : N * N < 2 ^ (n + n) := by rw [Nat.pow_add]; exact Nat.mul_lt_mul'' hN hN
  have h02 : 0 < N * N := Nat.mul_pos h0 h0
  have w1 := in_weight b1
  have w2 := in_weight b2
  have ws := in_plus w1 w2
  have m1 := inA_mateL b1
  have m2 := inA_mateL b2
  have d1 := inA_made a1 m1
  have d2 := inA_made a2 m2
  have d3 := inA_made a2 b1
  have d4 := inA_made a1 b2
  have o := inA_off d3 d4
  have key : plus (weight x1) (weight x2) ≠ (0, 1) → (plus (weight x1) (weight x2)).1 ≠ 0 := fun ne => num_ne ws.1 ne
  have big : plus (weight x1) (weight x2) ≠ (0, 1) → ∃ B : Nat, 0 < B ∧ B < 2 ^ (T + T + 2) ∧ InQ B (n + n) (over (1, 1) (plus (weight x1) (weight x2))) ∧ InA B (T + T + 2) (often (off (made y2 x1) (made y1 x2)) (over (1, 1) (plus (weight x1) (weight x2)))) := fun ne => by
    obtain ⟨B, B0, B1, B2, B3⟩ := in_over ws (key ne) h02 hN2
    exact ⟨B, B0, B1, B2, B3 _ _ o.1, B3 _ _ o.2⟩
  refine ⟨⟨sz_weight b1 h0 hN hn (by omega), sz_weight b2 h0 hN hn (by omega), in_sz w1 h02 hN2 hn (by omega), in_sz w2 h02 hN2 hn (by omega), in_sz ws h02 hN2 hn (by omega), sz_made a1 m1 h0 h0 hN hN hn (by omega), sz_made a2 m2 h0 h0 hN hN hn (by omega), inA_sz d1 h02 hN2 hn (by omega), inA_sz d2 h02 hN2 hn (by omega),
    sz_made a2 b1 h0 h0 hN hN hn (by omega), sz_made a1 b2 h0 h0 hN hN hn (by omega), inA_sz d3 h02 hN2 hn (by omega), inA_sz d4 h02 hN2 hn (by omega), inA_sz o h02 hN2 hn (by omega), fun ne => ?_, key⟩, fun z e => ?_⟩
  · obtain ⟨B, B0, B1, B2, B3⟩ := big ne
    exact ⟨in_sz B2 B0 B1 (by omega) hn, sz_weight B3 B0 B1 (by omega) (by omega)⟩
  · unfold frontA at e
    split at e
    · cases e
    · rename_i ne
      obtain ⟨B, B0, B1, B2, B3⟩ := big ne
      split at e
      · cases e
      · split at e
        · rw [← Option.some.inj e]
          exact ⟨B, B0, B1, B3⟩
        · cases e
/-- the rows' common denominator and numerators are below 2^t -/
def StR (t : Nat) (p q : List A2) : Prop := ∃ N : Nat, 0 < N ∧ N < 2 ^ t ∧ (∀ x ∈ p, InA N t x) ∧ ∀ x ∈ q, InA N t x
theorem quot_in {h : Q2} (hh : InQ 36 13 h) {N t n : Nat} {l : List A2} (hl : l.length ≤ 7) (hx : ∀ x ∈ l, InA N t x) (h0 : 0 < N) (hN : N < 2 ^ n) (hn : n + 30 ≤ 200000) (ht : t + 70 ≤ 200000) : SzD h l.reverse ∧ ∀ x ∈ quot h l, InA (N * 36 ^ 5) (t + 70) x := by
  obtain ⟨d1, d2, d3⟩ := div_in hh 5 N t n l.reverse (by rw [List.length_reverse]; omega) (fun x q => hx x (by simpa using q)) h0 hN (by omega) (by omega)
  refine ⟨d1, fun x q => d3 x ?_⟩
  unfold quot at q
  simpa using q
theorem step_in {h : Q2} {p q : List A2} {t : Nat} (hh : InQ 36 13 h) (st : StR t p q) (lp : p.length ≤ 6) (lq : q.length ≤ 6) (ht : t ≤ 15000) :
    (srL h p ∧ srL h q) ∧ (srP h p ∧ srP h q) ∧ SzF mateL (restL h p).1 (restL h p).2 (restL h q).1 (restL h q).2 h ∧
      ∀ z, frontA mateL (restL h p).1 (restL h p).2 (restL h q).1 (restL h q).2 h = some z → (∃ B : Nat, 0 < B ∧ B < 2 ^ (2 * t + 114) ∧ InA B (2 * t + 114) z) ∧ SzW mateL p q z h ∧ StR (3 * t + 186) (quot h (lows mateL p q z)) (quot h (highs mateL p q z)) := by
  obtain ⟨N, h0, hN, hp, hq⟩ := st
  have dv : ∀ {row : List A2}, row.length ≤ 6 → (∀ x ∈ row, InA N t x) → srL h row ∧ srP h row ∧ InA (N * 36 ^ 4) (t + 56) (restL h row).1 ∧ InA (N * 36 ^ 4) (t + 56) (restL h row).2 := fun {row} l hx => by
    obtain ⟨d1, d2, d3⟩ := div_in hh 4 N t t row.reverse (by rw [List.length_reverse]; omega) (fun x q => hx x (by simpa using q)) h0 hN (by omega) (by omega)
    have d2' : ∀ x ∈ (divR h row.reverse).1.reverse, InA (N * 36 ^ 4) (t + 56) x := fun x hx => d2 x (by simpa using hx)
    refine ⟨d1, ?_, inA_ent d2' 0, inA_ent d2' 1⟩
    exact rest_in hh h0 hN (by omega) (by omega) row 0 r0 hx (by omega) ⟨cn_int 1, 1, by rw [show r0.w = (1, 1) from rfl, vl_1]; grind, by decide⟩ (inA_org _ _) (inA_org _ _)
  obtain ⟨e1, e2, e3, e4⟩ := dv lp hp
  obtain ⟨f1, f2, f3, f4⟩ := dv lq hq
  have h04 : 0 < N * 36 ^ 4 := Nat.mul_pos h0 (by decide)
  have hN4 : N * 36 ^ 4 < 2 ^ (t + 24) := by
    rw [Nat.pow_add]
    exact Nat.mul_lt_mul_of_lt_of_le hN (show 36 ^ 4 ≤ 2 ^ 24 by decide) (by decide)
  obtain ⟨g1, g2⟩ := front_in (h := h) e3 e4 f3 f4 h04 hN4 (by omega) (by omega)
  refine ⟨⟨e1, f1⟩, ⟨e2, f2⟩, g1, fun z hz => ?_⟩
  obtain ⟨B, B0, B1, B2⟩ := g2 z hz
  have eT : t + 56 + (t + 56) + 2 = 2 * t + 114 := by omega
  rw [eT] at B1 B2
  have hBN : B * N < 2 ^ (3 * t + 114) := by
    rw [show 3 * t + 114 = (2 * t + 114) + t by omega, Nat.pow_add]
    exact Nat.mul_lt_mul'' B1 hN
  have hBN0 : 0 < B * N := Nat.mul_pos B0 h0
  have up : ∀ x, InA N t x → InA (B * N) (3 * t + 114) x := fun x hx => by
    have q := inA_mul hx B B0 (Nat.le_of_lt B1)
    rw [Nat.mul_comm N B] at q
    exact inA_mono q (by omega)
  have md : ∀ x, InA N t x → SzMade z (mateL x) ∧ InA (B * N) (3 * t + 115) (made z (mateL x)) := fun x hx => by
    have q := inA_mateL hx
    refine ⟨sz_made B2 q B0 h0 B1 hN (by omega) (by omega), ?_⟩
    exact inA_mono (inA_made B2 q) (by omega)
  have lo : ∀ x ∈ lows mateL p q z, InA (B * N) (3 * t + 116) x := fun x hx => by
    unfold lows at hx
    obtain ⟨k, _, rfl⟩ := List.mem_map.mp hx
    exact inA_summed (inA_mono (up _ (inA_ent hp _)) (by omega)) (md _ (inA_ent hq _)).2
  have hi : ∀ x ∈ highs mateL p q z, InA (B * N) (3 * t + 116) x := fun x hx => by
    unfold highs at hx
    obtain ⟨k, _, rfl⟩ := List.mem_map.mp hx
    exact inA_off (inA_mono (up _ (inA_ent hq _)) (by omega)) (md _ (inA_ent hp _)).2
  obtain ⟨s1, s2⟩ := quot_in hh (l := lows mateL p q z) (by rw [lows_len]; omega) lo hBN0 hBN (by omega) (by omega)
  obtain ⟨s3, s4⟩ := quot_in hh (l := highs mateL p q z) (by rw [highs_len]; omega) hi hBN0 hBN (by omega) (by omega)
  refine ⟨⟨B, B0, B1, B2⟩, ⟨fun k hk => ?_, fun k hk => ?_, s1, s3⟩, B * N * 36 ^ 5, Nat.mul_pos hBN0 (by decide), ?_, fun x hx => inA_mono (s2 x hx) (by omega), fun x hx => inA_mono (s4 x hx) (by omega)⟩
  · obtain ⟨m1, m2⟩ := md _ (inA_ent hq (k : Int))
    exact ⟨inA_sz (inA_ent hp _) h0 hN (by omega) (by omega), inA_sz (inA_ent hq _) h0 hN (by omega) (by omega), m1, inA_sz m2 hBN0 hBN (by omega) (by omega)⟩
  · obtain ⟨m1, m2⟩ := md _ (inA_ent hp (k : Int))
    exact ⟨inA_sz (inA_ent hq _) h0 hN (by omega) (by omega), inA_sz (inA_ent hp _) h0 hN (by omega) (by omega), m1, inA_sz m2 hBN0 hBN (by omega) (by omega)⟩
  · have q : B * N * 36 ^ 5 < 2 ^ (3 * t + 114 + 30) := by
      rw [Nat.pow_add]
      exact Nat.mul_lt_mul_of_lt_of_le hBN (show 36 ^ 5 ≤ 2 ^ 30 by decide) (by decide)
    exact Nat.lt_of_lt_of_le q (Nat.pow_le_pow_right (by decide) (by omega))
theorem StR.cn {t : Nat} {p q : List A2} (s : StR t p q) : CnL p ∧ CnL q := by
  obtain ⟨N, _, _, hp, hq⟩ := s
  exact ⟨fun x hx => (hp x hx).cn, fun x hx => (hq x hx).cn⟩
theorem pow3 (m : Nat) : 1 ≤ 3 ^ m := Nat.pos_of_ne_zero (by
  have : 0 < 3 ^ m := Nat.pow_pos (by decide)
  omega)
/-- all sizes on the way of the rods -/
theorem run_in : ∀ (hs : List Q2) (t : Nat) (p q : List A2) (s : A2), (∀ h ∈ hs, InQ 36 13 h) → StR t p q → p.length = hs.length + 1 → q.length = hs.length → hs.length ≤ 5 → (t + 93) * 3 ^ hs.length ≤ 42039 → (∃ S : Nat, 0 < S ∧ S < 2 ^ t ∧ InA S t s) →
    SzB mateL restL srL hs p q ∧ SzB mate restP srP hs p q ∧ SzK mate restP s hs p q ∧ ∀ k zs p' q', runB mateL restL hs k p q = .ok (zs, p', q') → SzC s zs
  | [], t, p, q, s, _, _, _, _, _, ht, ⟨S, S0, S1, S2⟩ => by
    have ht : (t + 93) * 1 ≤ 42039 := ht
    refine ⟨trivial, trivial, trivial, fun k zs p' q' e => ?_⟩
    rw [runB_nil] at e
    injection e with e
    injection e with e _
    rw [← e]
    exact inA_sz S2 S0 S1 (by omega) (by omega)
  | h :: hs, t, p, q, s, hh, st, lp, lq, ln, ht, ⟨S, S0, S1, S2⟩ => by
    simp only [List.length_cons] at lp lq ln
    have ht3 : (t + 93) * 3 * 3 ^ hs.length ≤ 42039 := by
      have e : (t + 93) * 3 ^ (hs.length + 1) = (t + 93) * 3 * 3 ^ hs.length := by rw [Nat.pow_succ, Nat.mul_comm (3 ^ hs.length) 3, ← Nat.mul_assoc]
      rw [← e]; exact ht
    have t0 : t ≤ 15000 := by
      have p1 := pow3 hs.length
      have q1 : (t + 93) * 3 * 1 ≤ (t + 93) * 3 * 3 ^ hs.length := Nat.mul_le_mul_left _ p1
      omega
    have ch := hh h List.mem_cons_self
    obtain ⟨⟨r1, r2⟩, ⟨r3, r4⟩, r5, r6⟩ := step_in ch st (by omega) (by omega) t0
    obtain ⟨cp, cq⟩ := st.cn
    have ep := rest_eq ch.1 cp
    have eq_ := rest_eq ch.1 cq
    have c1 := (cn_restL ch.1 cp).2
    have c2 := (cn_restL ch.1 cq).2
    have ef : frontA mate (restP h p).1 (restP h p).2 (restP h q).1 (restP h q).2 h = frontA mateL (restL h p).1 (restL h p).2 (restL h q).1 (restL h q).2 h := by
      rw [ep, eq_]; exact front_eq c1 c2
    have fP : SzF mate (restP h p).1 (restP h p).2 (restP h q).1 (restP h q).2 h := by
      rw [ep, eq_]
      have m1 := mate_eq c1
      have m2 := mate_eq c2
      exact ⟨r5.w1, r5.w2, r5.p1, r5.p2, r5.s, by rw [m1]; exact r5.m1, by rw [m2]; exact r5.m2, by rw [m1]; exact r5.n1, by rw [m2]; exact r5.n2, r5.m3, r5.m4, r5.n3, r5.n4, r5.o, r5.v, r5.nz⟩
    have nxt : ∀ z, frontA mateL (restL h p).1 (restL h p).2 (restL h q).1 (restL h q).2 h = some z → SzA s ∧ SzA z ∧ SzW mateL p q z h ∧ SzW mate p q z h ∧
        (SzB mateL restL srL hs (quot h (lows mateL p q z)) (quot h (highs mateL p q z)) ∧ SzB mate restP srP hs (quot h (lows mateL p q z)) (quot h (highs mateL p q z)) ∧ SzK mate restP (summed s z) hs (quot h (lows mateL p q z)) (quot h (highs mateL p q z)) ∧
          ∀ k zs p' q', runB mateL restL hs k (quot h (lows mateL p q z)) (quot h (highs mateL p q z)) = .ok (zs, p', q') → SzC (summed s z) zs) := fun z hz => by
      obtain ⟨⟨B, B0, B1, B2⟩, w, st2⟩ := r6 z hz
      have sw : SzW mate p q z h := by
        refine ⟨fun k hk => ?_, fun k hk => ?_, by rw [lows_eq cq]; exact w.d1, by rw [highs_eq cp]; exact w.d2⟩
        · rw [mate_eq (cn_ent cq _)]; exact w.l1 k hk
        · rw [mate_eq (cn_ent cp _)]; exact w.l2 k hk
      have hSB : S * B < 2 ^ (3 * t + 186) := by
        have q : S * B < 2 ^ (t + (2 * t + 114)) := by rw [Nat.pow_add]; exact Nat.mul_lt_mul'' S1 B1
        exact Nat.lt_of_lt_of_le q (Nat.pow_le_pow_right (by decide) (by omega))
      have s2 : InA (S * B) (3 * t + 186) (summed s z) := by
        have a := inA_mul S2 B B0 (Nat.le_of_lt B1)
        have b := inA_mul B2 S S0 (Nat.le_of_lt S1)
        rw [Nat.mul_comm B S] at b
        exact inA_mono (inA_summed (t := 3 * t + 114) (inA_mono a (by omega)) (inA_mono b (by omega))) (by omega)
      refine ⟨inA_sz S2 S0 S1 (by omega) (by omega), inA_sz B2 B0 B1 (by omega) (by omega), w, sw, ?_⟩
      exact run_in hs (3 * t + 186) _ _ (summed s z) (fun x hx => hh x (List.mem_cons_of_mem _ hx)) st2 (by rw [quot_len, lows_len]; omega) (by rw [quot_len, highs_len]; omega) (by omega) (by rw [show 3 * t + 186 + 93 = (t + 93) * 3 by omega]; exact ht3) ⟨S * B, Nat.mul_pos S0 B0, hSB, s2⟩
    refine ⟨⟨⟨r1, r2, r5⟩, fun z hz => ?_⟩, ⟨⟨r3, r4, fP⟩, fun z hz => ?_⟩, fun z hz => ?_, fun k zs p' q' e => ?_⟩
    · obtain ⟨_, _, n3, _, n5, _⟩ := nxt z hz
      exact ⟨n3, n5⟩
    · obtain ⟨_, _, _, n4, _, n6, _⟩ := nxt z (ef.symm.trans hz)
      rw [lows_eq cq, highs_eq cp]
      exact ⟨n4, n6⟩
    · obtain ⟨n1, n2, _, _, _, _, n7, _⟩ := nxt z (ef.symm.trans hz)
      rw [lows_eq cq, highs_eq cp]
      exact ⟨n1, n2, n7⟩
    · cases f : frontA mateL (restL h p).1 (restL h p).2 (restL h q).1 (restL h q).2 h with
      | none => rw [runB_none f] at e; cases e
      | some z =>
        obtain ⟨n1, n2, _, _, _, _, _, n8⟩ := nxt z f
        rw [runB_some f] at e
        cases r : runB mateL restL hs (k + 1) (quot h (lows mateL p q z)) (quot h (highs mateL p q z)) with
        | error m => rw [r] at e; cases e
        | ok a =>
          obtain ⟨ys, e2⟩ := a
          rw [r] at e
          have e3 : (Except.ok ([z] ++ ys, e2) : Except Nat (List A2 × List A2 × List A2)) = .ok (zs, p', q') := e
          injection e3 with e3
          injection e3 with e3 _
          rw [← e3]
          exact ⟨n1, n2, n8 (k + 1) ys e2.1 e2.2 r⟩
end Ct
/-! The plain mathematics, last part: whole, bent, all that the law reckons. -/
namespace Ct
/-- what is to be reckoned in plain Lean -/
structure MathOk : Prop where
  whole : ∀ zs : List A2, (∀ z ∈ zs, SmA z) → 1 ≤ zs.length → zs.length ≤ 5 → SzWh zs [lone] []
  wt : ∀ z, SmA z → SzWeight z
  bent : ∀ zs : List A2, (∀ z ∈ zs, SmA z) → 1 ≤ zs.length → zs.length ≤ 5 → OkBent ((wholeGo zs [lone] []).1, (wholeGo zs [lone] []).2, zs.map weight)
  run : ∀ (zs : List A2) (b : TupW) (fw : List Q2), (∀ z ∈ zs, SmA z) → 1 ≤ zs.length → zs.length ≤ 5 → Bent ((wholeGo zs [lone] []).1, (wholeGo zs [lone] []).2, zs.map weight) b → (fw = b.2.2 ∨ fw = b.2.2.dropLast ∨ fw = b.2.2 ++ [(1, 1)]) →
    OkBP (b.1, b.2.1, fw) ∧ OkBL (b.1, b.2.1, fw) ∧ builtP fw b.1 b.2.1 = builtL fw b.1 b.2.1
theorem sm_in {x : Q2} (h : SmQ x) : InQ 6 6 x := by
  obtain ⟨a, b, h1, h2, h3, h4, rfl⟩ := h
  have hb : b = 1 ∨ b = 2 ∨ b = 3 := by omega
  have e6 : (((6 : Nat) : Int) : Rat) = 6 := rfl
  refine ⟨cn_low (by omega), ?_⟩
  rcases hb with rfl | rfl | rfl
  · refine ⟨a * 6, ?_, ?_⟩
    · rw [vl_low (by decide), Rat.intCast_mul]
      have e1 : ((1 : Int) : Rat) = 1 := rfl
      have e2 : ((6 : Int) : Rat) = 6 := rfl
      rw [e1, e2, e6]; grind
    · show (a * 6).natAbs < 64; omega
  · refine ⟨a * 3, ?_, ?_⟩
    · rw [vl_low (by decide), Rat.intCast_mul]
      have e1 : ((2 : Int) : Rat) = 2 := rfl
      have e2 : ((3 : Int) : Rat) = 3 := rfl
      rw [e1, e2, e6]; grind
    · show (a * 3).natAbs < 64; omega
  · refine ⟨a * 2, ?_, ?_⟩
    · rw [vl_low (by decide), Rat.intCast_mul]
      have e1 : ((3 : Int) : Rat) = 3 := rfl
      have e2 : ((2 : Int) : Rat) = 2 := rfl
      rw [e1, e2, e6]; grind
    · show (a * 2).natAbs < 64; omega
theorem smA_in {z : A2} (h : SmA z) : InA 6 6 z := ⟨sm_in h.1, sm_in h.2⟩
theorem in_wt {z : A2} (h : SmA z) : InQ 36 13 (weight z) := in_weight (smA_in h)
theorem in_int {k : Int} (h1 : 1 ≤ k) (h2 : k ≤ 40) : InQ 36 13 (k, 1) := ⟨cn_int k, k * 36, by
  rw [vl_int, Rat.intCast_mul]; rfl, by show (k * 36).natAbs < 8192; omega⟩
theorem sz_wt {z : A2} (h : SmA z) : SzWeight z := sz_weight (n := 3) (smA_in h) (by decide) (by decide) (by decide) (by decide)
theorem p6 (k : Nat) : 0 < 6 ^ k ∧ 6 ^ k ≤ 2 ^ (3 * k) := by
  refine ⟨Nat.pow_pos (by decide), ?_⟩
  rw [Nat.pow_mul]
  exact Nat.pow_le_pow_left (by decide) k
theorem whole_in : ∀ (zs : List A2) (N t n : Nat) (p q : List A2), (∀ z ∈ zs, SmA z) → (∀ x ∈ p, InA N t x) → (∀ x ∈ q, InA N t x) → 0 < N → N < 2 ^ n → n + 3 * zs.length ≤ 1000 → t + 8 * zs.length ≤ 1000 →
    SzWh zs p q ∧ (∀ x ∈ (wholeGo zs p q).1, InA (N * 6 ^ zs.length) (t + 8 * zs.length) x) ∧ ∀ x ∈ (wholeGo zs p q).2, InA (N * 6 ^ zs.length) (t + 8 * zs.length) x
  | [], N, t, n, p, q, _, hp, hq, _, _, _, _ => ⟨trivial, fun x hx => by simpa using hp x hx, fun x hx => by simpa using hq x hx⟩
  | z :: zs, N, t, n, p, q, hz, hp, hq, h0, hN, hn, ht => by
    simp only [List.length_cons] at hn ht
    have iz := smA_in (hz z List.mem_cons_self)
    have im := inA_mateL iz
    have hN6 : N * 6 < 2 ^ (n + 3) := by
      rw [Nat.pow_add]
      exact Nat.mul_lt_mul_of_lt_of_le hN (by decide) (by decide)
    have up : ∀ x, InA N t x → InA (N * 6) (t + 7) x := fun x hx => inA_mono (inA_mul hx 6 (by decide) (show 6 ≤ 2 ^ 3 by decide)) (by omega)
    have lo : ∀ x ∈ wlow p q z, InA (N * 6) (t + 8) x := fun x hx => by
      unfold wlow at hx
      obtain ⟨k, _, rfl⟩ := List.mem_map.mp hx
      exact inA_off (up _ (inA_ent hp _)) (inA_made (inA_ent hq _) im)
    have hi : ∀ x ∈ whigh p q z, InA (N * 6) (t + 8) x := fun x hx => by
      unfold whigh at hx
      obtain ⟨k, _, rfl⟩ := List.mem_map.mp hx
      exact inA_summed (inA_made (inA_ent hp _) iz) (up _ (inA_ent hq _))
    obtain ⟨r1, r2, r3⟩ := whole_in zs (N * 6) (t + 8) (n + 3) _ _ (fun x hx => hz x (List.mem_cons_of_mem _ hx)) lo hi (by omega) hN6 (by omega) (by omega)
    have eN : N * 6 * 6 ^ zs.length = N * 6 ^ (zs.length + 1) := by rw [Nat.pow_succ, Nat.mul_assoc, Nat.mul_comm 6]
    have et : t + 8 + 8 * zs.length = t + 8 * (zs.length + 1) := by omega
    rw [eN, et] at r2 r3
    refine ⟨⟨⟨fun k _ => ?_, fun k _ => ?_⟩, r1⟩, r2, r3⟩
    · exact ⟨inA_sz (inA_ent hp _) h0 hN (by omega) (by omega), sz_made (n := n) (m := 3) (inA_ent hq _) im h0 (by decide) hN (by decide) (by omega) (by omega), inA_sz (inA_made (inA_ent hq _) im) (by omega) hN6 (by omega) (by omega)⟩
    · exact ⟨sz_made (n := n) (m := 3) (inA_ent hp _) iz h0 (by decide) hN (by decide) (by omega) (by omega), inA_sz (inA_made (inA_ent hp _) iz) (by omega) hN6 (by omega) (by omega), inA_sz (inA_ent hq _) h0 hN (by omega) (by omega)⟩
theorem whole_len : ∀ (zs : List A2) (p q : List A2), (wholeGo zs p q).1.length = p.length + zs.length ∧ (zs ≠ [] → (wholeGo zs p q).2.length + 1 = p.length + zs.length)
  | [], p, q => ⟨rfl, fun h => absurd rfl h⟩
  | [z], p, q => ⟨wlow_len p q z, fun _ => by show (whigh p q z).length + 1 = p.length + 1; rw [whigh_len]⟩
  | z :: y :: zs, p, q => by
    obtain ⟨h1, h2⟩ := whole_len (y :: zs) (wlow p q z) (whigh p q z)
    rw [wlow_len] at h1 h2
    refine ⟨?_, fun _ => ?_⟩
    · show (wholeGo (y :: zs) (wlow p q z) (whigh p q z)).1.length = _
      rw [h1]; simp; omega
    · show (wholeGo (y :: zs) (wlow p q z) (whigh p q z)).2.length + 1 = _
      rw [h2 (by simp)]; simp; omega
theorem in_lone : InA 1 1 lone := ⟨⟨cn_int 1, 1, by rw [vl_1, Rat.one_mul]; rfl, by decide⟩, in_zero 1 1⟩
section
variable {zs : List A2}
theorem start_in (hz : ∀ z ∈ zs, SmA z) (hl : zs.length ≤ 5) : SzWh zs [lone] [] ∧ (∀ x ∈ (wholeGo zs [lone] []).1, InA (6 ^ zs.length) 50 x) ∧ ∀ x ∈ (wholeGo zs [lone] []).2, InA (6 ^ zs.length) 50 x := by
  obtain ⟨r1, r2, r3⟩ := whole_in zs 1 1 1 [lone] [] hz (fun x hx => by rw [List.mem_singleton.mp hx]; exact in_lone) (fun x hx => by cases hx) (by decide) (by decide) (by omega) (by omega)
  rw [Nat.one_mul] at r2 r3
  exact ⟨r1, fun x hx => inA_mono (r2 x hx) (by omega), fun x hx => inA_mono (r3 x hx) (by omega)⟩
theorem in_21 : InQ 1 2 (2, 1) := ⟨cn_int 2, 2, by rw [vl_int, show (((1 : Nat) : Int) : Rat) = 1 from rfl, Rat.mul_one], by decide⟩
theorem p6lt (k : Nat) : (6 : Nat) ^ k < 2 ^ (3 * k + 1) := Nat.lt_of_le_of_lt (p6 k).2 (Nat.pow_lt_pow_right (by decide) (by omega))
theorem bent_row (h1 : 1 ≤ zs.length) (h5 : zs.length ≤ 5) {r r' : List A2} (hr : ∀ x ∈ r, InA (6 ^ zs.length) 50 x) (hb : ∀ x ∈ r', x ∈ r ∨ SmA x ∨ ∃ y ∈ r, x = often y (2, 1)) : ∀ x ∈ r', InA (6 ^ zs.length) 80 x := fun x hx => by
  rcases hb x hx with h | h | ⟨y, hy, rfl⟩
  · exact inA_mono (hr x h) (by omega)
  · have q := inA_mul (smA_in h) (6 ^ (zs.length - 1)) (p6 _).1 (p6 _).2
    have e : 6 * 6 ^ (zs.length - 1) = 6 ^ zs.length := by
      rw [Nat.mul_comm, ← Nat.pow_succ, show (zs.length - 1).succ = zs.length by omega]
    rw [e] at q
    exact inA_mono q (by omega)
  · have q := inA_often (hr y hy) in_21
    rw [Nat.mul_one] at q
    exact inA_mono q (by omega)
end
theorem math_ok : MathOk where
  whole := fun zs hz _ h5 => (start_in hz h5).1
  wt := fun z hz => sz_wt hz
  bent := fun zs hz h1 h5 => by
    obtain ⟨_, r2, r3⟩ := start_in hz h5
    obtain ⟨l1, l2⟩ := whole_len zs [lone] []
    have l2 := l2 fun e => by rw [e] at h1; simp at h1
    have l1 : (wholeGo zs [lone] []).1.length = 1 + zs.length := l1
    have l2 : (wholeGo zs [lone] []).2.length + 1 = 1 + zs.length := l2
    have ok : ∀ x, InA (6 ^ zs.length) 50 x → SzA x ∧ SzA (often x (2, 1)) := fun x hx => by
      have q := inA_often hx in_21
      rw [Nat.mul_one] at q
      exact ⟨inA_sz hx (p6 _).1 (p6lt _) (by omega) (by omega), inA_sz q (p6 _).1 (p6lt _) (by omega) (by omega)⟩
    exact ⟨fun x hx => ok x (r2 x hx), fun x hx => ok x (r3 x hx), by show 1 ≤ (wholeGo zs [lone] []).2.length; omega, by show (wholeGo zs [lone] []).2.length ≤ 200; omega,
      by show (wholeGo zs [lone] []).1.length = (wholeGo zs [lone] []).2.length + 1; omega, by show (zs.map weight).length = (wholeGo zs [lone] []).2.length; rw [List.length_map]; omega⟩
  run := fun zs b fw hz h1 h5 hb hf => by
    obtain ⟨p', q', w'⟩ := b
    obtain ⟨_, r2, r3⟩ := start_in hz h5
    obtain ⟨l1, l2⟩ := whole_len zs [lone] []
    have l2 := l2 fun e => by rw [e] at h1; simp at h1
    have l2 : (wholeGo zs [lone] []).2.length + 1 = 1 + zs.length := l2
    have bq := hb.lq
    have bw := hb.lw
    have bq : q'.length ≤ (wholeGo zs [lone] []).2.length := bq
    have bw : w'.length = (zs.map weight).length := bw
    rw [List.length_map] at bw
    have rp := bent_row h1 h5 r2 hb.p
    have rq := bent_row h1 h5 r3 hb.q
    have hw : ∀ h ∈ w', InQ 36 13 h := fun h hh => by
      rcases hb.w h hh with q | ⟨k, k1, k2, rfl⟩
      · obtain ⟨z, zm, rfl⟩ := List.mem_map.mp q
        exact in_wt (hz z zm)
      · exact in_int k1 k2
    have hfw : (∀ h ∈ fw, InQ 36 13 h) ∧ fw.length ≤ 6 := by
      rcases hf with e | e | e
      · have e : fw = w' := e
        rw [e]
        exact ⟨hw, by omega⟩
      · have e : fw = w'.dropLast := e
        rw [e]
        refine ⟨fun h hh => hw h (List.dropLast_subset _ hh), ?_⟩
        rw [List.length_dropLast]; omega
      · have e : fw = w' ++ [(1, 1)] := e
        rw [e]
        refine ⟨fun h hh => ?_, ?_⟩
        · rcases List.mem_append.mp hh with hh | hh
          · exact hw h hh
          · rw [List.mem_singleton.mp hh]; exact in_int (by decide) (by decide)
        · rw [List.length_append]; simp; omega
    obtain ⟨hfw, fl⟩ := hfw
    have st : StR 80 p' q' := ⟨6 ^ zs.length, (p6 _).1, Nat.lt_of_lt_of_le (p6lt _) (Nat.pow_le_pow_right (by decide) (by omega)), rp, rq⟩
    have go : Lens fw p' q' → _ := fun hL => run_in fw 80 p' q' org hfw st hL.1 hL.2 (by have := hL.2; omega) (by
      have l5 : fw.length ≤ 5 := by have := hL.2; omega
      have q : 3 ^ fw.length ≤ 3 ^ 5 := Nat.pow_le_pow_right (by decide) l5
      have q2 : (80 + 93) * 3 ^ fw.length ≤ (80 + 93) * 3 ^ 5 := Nat.mul_le_mul_left _ q
      exact Nat.le_trans q2 (by decide)) ⟨1, by decide, by decide, inA_org 1 80⟩
    exact ⟨⟨fun hL => (go hL).2.1, fun hL => (go hL).2.2.1, by show fw.length ≤ 700; omega⟩, ⟨fun hL => (go hL).1, fun hL => (go hL).2.2.2 0, by show fw.length ≤ 700; omega⟩, built_eq (fun h hh => (hfw h hh).1) (fun x hx => (rp x hx).cn) fun x hx => (rq x hx).cn⟩
end Ct
/-! What a state knows: a list of slots, each with its datum; the heap behind it. -/
namespace Ct
open PySem PySem.Spec PyProof.Rows L2

/-! ### heaps -/
/-- the heap without some addresses -/
def hides (ps : List Addr) (H : Hp) : Hp := fun a => if a ∈ ps then none else H a
theorem hides_in {ps : List Addr} {H : Hp} {a : Addr} (h : a ∈ ps) : hides ps H a = none := if_pos h
theorem hides_out {ps : List Addr} {H : Hp} {a : Addr} (h : a ∉ ps) : hides ps H a = H a := if_neg h
theorem hides_some {ps : List Addr} {H : Hp} {a : Addr} {o : HO} (h : hides ps H a = some o) : a ∉ ps ∧ H a = some o := by
  by_cases m : a ∈ ps
  · rw [hides_in m] at h; cases h
  · rw [hides_out m] at h; exact ⟨m, h⟩
theorem hides_le (ps : List Addr) (H : Hp) : Same (hides ps H) H := fun _ _ h => (hides_some h).2
theorem hides_mono (ps : List Addr) {H H' : Hp} (e : Same H H') : Same (hides ps H) (hides ps H') := fun a o h => by
  obtain ⟨m, q⟩ := hides_some h
  rw [hides_out m]; exact e a o q
theorem hides_sub {ps qs : List Addr} (H : Hp) (h : ∀ a ∈ qs, a ∈ ps) : Same (hides ps H) (hides qs H) := fun a o e => by
  obtain ⟨m, q⟩ := hides_some e
  rw [hides_out fun z => m (h a z)]; exact q
theorem hides_upd {ps : List Addr} {H : Hp} {p : Addr} {o : HO} (h : p ∈ ps) : hides ps (upd H p o) = hides ps H := by
  funext a
  by_cases m : a ∈ ps
  · rw [hides_in m, hides_in m]
  · rw [hides_out m, hides_out m, upd_ne (fun z : a = p => m (by rw [z]; exact h))]
theorem same_new {H : Hp} {p : Addr} {o : HO} (h : H p = none) : Same H (upd H p o) := fun b x e => by
  rw [upd_ne (ne_of_none e h)]; exact e
theorem same_seqT {K : PySem.W.Frag} {H H' : Hp} {a : Addr} {xs : List V} (e : Same H H') (h : SqT K H a xs) : SqT K H' a xs := by
  rcases h with (h | ⟨o, h⟩) | h
  · exact .inl (.inl (e _ _ h))
  · exact .inl (.inr ⟨o, e _ _ h⟩)
  · exact .inr h

/-! ### data -/
mutual
theorem dp_mono {K : PySem.W.Frag} {H H' : Hp} (e : Same H H') : ∀ (d : PyData) (v : V), Dp K H v d → Dp K H' v d
  | .none, _, h => by cases h; exact .non
  | .bool b, _, h => by cases h; exact .bl b
  | .int i, _, h => by cases h; exact .int i
  | .str x, _, h => by cases h; exact .str x
  | .list ds, _, h => by
    cases h with
    | lst hs ha => exact .lst (e.seq hs) (dpAll_mono e ds _ ha)
  | .tuple ds, _, h => by
    cases h with
    | tup hs ha => exact .tup (same_seqT e hs) (dpAll_mono e ds _ ha)
  | .dict _, _, h => by cases h
theorem dpAll_mono {K : PySem.W.Frag} {H H' : Hp} (e : Same H H') : ∀ (ds : List PyData) (vs : List V), DpAll K H vs ds → DpAll K H' vs ds
  | [], _, h => by cases h; exact .nil
  | d :: ds, _, h => by
    cases h with
    | cons h1 h2 => exact .cons (dp_mono e d _ h1) (dpAll_mono e ds _ h2)
end
theorem _root_.L2.Dp.to {K : PySem.W.Frag} {H H' : Hp} {v : V} {d : PyData} (h : Dp K H v d) (e : Same H H') : Dp K H' v d := dp_mono e d v h
theorem _root_.L2.DpAll.to {K : PySem.W.Frag} {H H' : Hp} {vs : List V} {ds : List PyData} (h : DpAll K H vs ds) (e : Same H H') : DpAll K H' vs ds := dpAll_mono e ds vs h
mutual
/-- no list within -/
def noL : PyData → Bool
  | .list _ => false
  | .tuple ds => noLs ds
  | .dict _ => false
  | _ => true
def noLs : List PyData → Bool
  | [] => true
  | d :: ds => noL d && noLs ds
end
/-- tuples stay -/
def Tu (H H' : Hp) : Prop := ∀ a xs, Rd H a (.tup xs) → Rd H' a (.tup xs)
mutual
theorem dp_tu {K : PySem.W.Frag} {H H' : Hp} (e : Tu H H') : ∀ (d : PyData) (v : V), noL d = true → Dp K H v d → Dp K H' v d
  | .none, _, _, h => by cases h; exact .non
  | .bool b, _, _, h => by cases h; exact .bl b
  | .int i, _, _, h => by cases h; exact .int i
  | .str x, _, _, h => by cases h; exact .str x
  | .list ds, _, n, h => by cases (show false = true from n)
  | .tuple ds, _, n, h => by
    cases h with
    | tup hs ha =>
      refine .tup ?_ (dpAll_tu e ds _ (by simpa [noL] using n) ha)
      rcases hs with hs | hs
      · exact .inl (e _ _ hs)
      · exact .inr hs
  | .dict _, _, _, h => by cases h
theorem dpAll_tu {K : PySem.W.Frag} {H H' : Hp} (e : Tu H H') : ∀ (ds : List PyData) (vs : List V), noLs ds = true → DpAll K H vs ds → DpAll K H' vs ds
  | [], _, _, h => by cases h; exact .nil
  | d :: ds, _, n, h => by
    cases h with
    | cons h1 h2 =>
      have n2 : noL d = true ∧ noLs ds = true := by simpa [noLs] using n
      exact .cons (dp_tu e d _ n2.1 h1) (dpAll_tu e ds _ n2.2 h2)
end
theorem tu_hides {ps : List Addr} {H : Hp} (hl : ∀ p ∈ ps, ∃ xs, H p = some (.lst xs)) : Tu H (hides ps H) := fun a xs h => by
  have key : ∀ u, H a = some u → (∀ ys, u ≠ .lst ys) → hides ps H a = some u := fun u hu n => by
    rw [hides_out]
    · exact hu
    · intro m
      obtain ⟨ys, q⟩ := hl a m
      rw [hu] at q
      exact n ys (Option.some.inj q)
  rcases h with h | ⟨o, h⟩
  · exact .inl (key _ h fun ys z => by cases z)
  · exact .inr ⟨o, key _ h fun ys z => by cases z⟩
theorem dp_len {K : PySem.W.Frag} {H : Hp} : ∀ {vs : List V} {ds : List PyData}, DpAll K H vs ds → vs.length = ds.length
  | _, [], h => by cases h; rfl
  | _, d :: ds, h => by
    cases h with
    | cons h1 h2 => rw [List.length_cons, List.length_cons, dp_len h2]
theorem dp_get {K : PySem.W.Frag} {H : Hp} : ∀ {vs : List V} {ds : List PyData} {i : Nat} {d : PyData}, DpAll K H vs ds → ds[i]? = some d → ∃ v, vs[i]? = some v ∧ Dp K H v d
  | _, [], i, d, h, e => by simp at e
  | _, x :: ds, 0, d, h, e => by
    cases h with
    | cons h1 h2 =>
      have e' : x = d := by simpa using e
      subst e'
      exact ⟨_, rfl, h1⟩
  | _, x :: ds, i + 1, d, h, e => by
    cases h with
    | cons h1 h2 =>
      obtain ⟨v, a, b⟩ := dp_get h2 (by simpa using e)
      exact ⟨v, by simpa using a, b⟩
theorem dp_app {K : PySem.W.Frag} {H : Hp} : ∀ {vs ws : List V} {ds es : List PyData}, DpAll K H vs ds → DpAll K H ws es → DpAll K H (vs ++ ws) (ds ++ es)
  | _, _, [], _, h, h2 => by cases h; exact h2
  | _, _, d :: ds, _, h, h2 => by
    cases h with
    | cons a b => exact .cons a (dp_app b h2)
theorem dp_set {K : PySem.W.Frag} {H : Hp} : ∀ {vs : List V} {ds : List PyData} {v : V} {d : PyData} (i : Nat), DpAll K H vs ds → Dp K H v d → DpAll K H (vs.set i v) (ds.set i d)
  | _, [], _, _, _, h, _ => by cases h; exact .nil
  | _, x :: ds, _, _, 0, h, hd => by
    cases h with
    | cons a b => exact .cons hd b
  | _, x :: ds, _, _, i + 1, h, hd => by
    cases h with
    | cons a b => exact .cons a (dp_set i b hd)
theorem dp_take {K : PySem.W.Frag} {H : Hp} : ∀ {vs : List V} {ds : List PyData} (n : Nat), DpAll K H vs ds → DpAll K H (vs.take n) (ds.take n)
  | _, [], n, h => by cases h; simp; exact .nil
  | _, d :: ds, 0, h => by simp; exact .nil
  | _, d :: ds, n + 1, h => by
    cases h with
    | cons a b => exact .cons a (dp_take n b)
theorem dp_drop {K : PySem.W.Frag} {H : Hp} : ∀ {vs : List V} {ds : List PyData} (n : Nat), DpAll K H vs ds → DpAll K H (vs.drop n) (ds.drop n)
  | _, [], n, h => by cases h; simp; exact .nil
  | _, d :: ds, 0, h => h
  | _, d :: ds, n + 1, h => by
    cases h with
    | cons a b => exact dp_drop n b
theorem dp_rev {K : PySem.W.Frag} {H : Hp} : ∀ {vs : List V} {ds : List PyData}, DpAll K H vs ds → DpAll K H vs.reverse ds.reverse
  | _, [], h => by cases h; exact .nil
  | _, d :: ds, h => by
    cases h with
    | cons a b =>
      rw [List.reverse_cons, List.reverse_cons]
      exact dp_app (dp_rev b) (.cons a .nil)
theorem dp_dropLast {K : PySem.W.Frag} {H : Hp} {vs : List V} {ds : List PyData} (h : DpAll K H vs ds) : DpAll K H vs.dropLast ds.dropLast := by
  rw [List.dropLast_eq_take, List.dropLast_eq_take, dp_len h]
  exact dp_take _ h
theorem dp_erase {K : PySem.W.Frag} {H : Hp} : ∀ {vs : List V} {ds : List PyData} (i : Nat), DpAll K H vs ds → DpAll K H (vs.eraseIdx i) (ds.eraseIdx i)
  | _, [], i, h => by cases h; simp; exact .nil
  | _, d :: ds, 0, h => by
    cases h with
    | cons a b => exact b
  | _, d :: ds, i + 1, h => by
    cases h with
    | cons a b => exact .cons a (dp_erase i b)
theorem dp_at {K : PySem.W.Frag} {H : Hp} {vs : List V} {ds : List PyData} {i : Int} {d : PyData} (h : DpAll K H vs ds) (e : atI ds i = some d) : ∃ v, atI vs i = some v ∧ Dp K H v d := by
  unfold atI at e ⊢
  rw [dp_len h]
  cases q : ixN ds.length i with
  | none => rw [q] at e; cases e
  | some j =>
    rw [q] at e
    exact dp_get h e
theorem dp_int {K : PySem.W.Frag} {H : Hp} {v : V} {i : Int} (h : Dp K H v (.int i)) : v = .int i := by cases h; rfl
theorem dp_bool {K : PySem.W.Frag} {H : Hp} {v : V} {i : Bool} (h : Dp K H v (.bool i)) : v = .bl i := by cases h; rfl
theorem dp_str {K : PySem.W.Frag} {H : Hp} {v : V} {i : Str} (h : Dp K H v (.str i)) : v = .str i := by cases h; rfl
theorem dp_none {K : PySem.W.Frag} {H : Hp} {v : V} (h : Dp K H v .none) : v = .non := by cases h; rfl
theorem dp_tuple {K : PySem.W.Frag} {H : Hp} {v : V} {ds : List PyData} (h : Dp K H v (.tuple ds)) : ∃ a xs, v = .ref a ∧ SqT K H a xs ∧ DpAll K H xs ds := by
  cases h with
  | tup hs ha => exact ⟨_, _, rfl, hs, ha⟩
theorem dp_list {K : PySem.W.Frag} {H : Hp} {v : V} {ds : List PyData} (h : Dp K H v (.list ds)) : ∃ a xs, v = .ref a ∧ SqL K H a xs ∧ DpAll K H xs ds := by
  cases h with
  | lst hs ha => exact ⟨_, _, rfl, hs, ha⟩
theorem dp_ints {K : PySem.W.Frag} {H : Hp} : ∀ (ns : List Int), DpAll K H (ns.map V.int) (ns.map PyData.int)
  | [] => .nil
  | n :: ns => .cons (.int n) (dp_ints ns)
theorem dp_bools {K : PySem.W.Frag} {H : Hp} : ∀ {bs : List Bool} {vs : List V}, DpAll K H vs (bs.map PyData.bool) → vs = bs.map V.bl
  | [], _, h => by cases h; rfl
  | b :: bs, _, h => by
    cases h with
    | cons h1 h2 => rw [dp_bool h1, dp_bools h2]; rfl

/-! ### what a slot knows -/
inductive Slot where
  | no
  | d (x : PyData)
  | own (xs : List PyData)
  | box (b : Addr)
def Slot.mut : Slot → Bool
  | .own _ => true
  | .box _ => true
  | _ => false
/-- the box of the draws at b: the script's numbers, the place, what is left of a number, the seed, the count -/
def BoxAt (K : PySem.W.Frag) (ps : List Addr) (H : Hp) (b : Addr) : Prop :=
  ∃ (sl : Addr) (xs : List Int) (i c s n : Int), H b = some (.lst [.ref sl, .int i, .int c, .int s, .int n]) ∧ SqL K (hides ps H) sl (xs.map V.int) ∧ 0 ≤ i ∧ i ≤ xs.length ∧ xs.length ≤ 63 ∧ 0 ≤ c ∧ 0 ≤ s ∧ s < 2147483629
theorem BoxAt.to {K : PySem.W.Frag} {ps : List Addr} {H H' : Hp} {b : Addr} (x : BoxAt K ps H b) (e : Same H H') : BoxAt K ps H' b := by
  obtain ⟨sl, xs, i, c, s, n, h1, h2, r⟩ := x
  exact ⟨sl, xs, i, c, s, n, e _ _ h1, (hides_mono ps e).seq h2, r⟩
def SlotOk (K : PySem.W.Frag) (C : Hp) (p0 ps : List Addr) (H : Hp) (s : Option (Option V)) : Slot → Prop
  | .no => True
  | .d x => ∃ v, s = some (some v) ∧ Dp K (hides ps H) v x
  | .own xs => ∃ p vs, s = some (some (.ref p)) ∧ p ∈ ps ∧ (C p = none ∧ p ∉ p0) ∧ H p = some (.lst vs) ∧ DpAll K (hides ps H) vs xs
  | .box b => s = some (some (.ref b)) ∧ b ∈ ps ∧ C b = none ∧ BoxAt K ps H b
/-- C: what stood at the entry and stays; B: what is known to stay; p0: lists that the caller hides; ps: these and one's own -/
structure EnvOk (K : PySem.W.Frag) (C B : Hp) (p0 ps : List Addr) (H : Hp) (σ : L2.St) (ms : List Slot) : Prop where
  keep : Same C H
  base : Same B (hides ps H)
  sub : ∀ p ∈ p0, p ∈ ps
  lst : ∀ p ∈ ps, ∃ xs, H p = some (.lst xs)
  slots : ∀ (i : Nat) (m : Slot), ms[i]? = some m → SlotOk K C p0 ps H σ[i]? m
  dis : ∀ (i j : Nat) (m n : Slot), i ≠ j → ms[i]? = some m → ms[j]? = some n → m.mut = true → n.mut = true → σ[i]? ≠ σ[j]?
  len : σ.length = ms.length
section
variable {K : PySem.W.Frag} {C B : Hp} {p0 ps : List Addr} {H H' : Hp} {σ : L2.St} {ms : List Slot}
theorem SlotOk.to {s : Option (Option V)} : ∀ {m : Slot}, SlotOk K C p0 ps H s m → Same H H' → SlotOk K C p0 ps H' s m
  | .no, _, _ => trivial
  | .d x, ⟨v, a, b⟩, e => ⟨v, a, b.to (hides_mono ps e)⟩
  | .own xs, ⟨p, vs, a, b, c, d, f⟩, e => ⟨p, vs, a, b, c, e _ _ d, f.to (hides_mono ps e)⟩
  | .box _, ⟨a, c, d, f⟩, e => ⟨a, c, d, f.to e⟩
theorem EnvOk.to (E : EnvOk K C B p0 ps H σ ms) (e : Same H H') : EnvOk K C B p0 ps H' σ ms :=
  ⟨E.keep.trans e, E.base.trans (hides_mono ps e), E.sub, fun p hp => let ⟨xs, q⟩ := E.lst p hp; ⟨xs, e _ _ q⟩, fun i m h => (E.slots i m h).to e, E.dis, E.len⟩
/-- all that is seen now is a base -/
theorem EnvOk.self (E : EnvOk K C B p0 ps H σ ms) : EnvOk K C (hides ps H) p0 ps H σ ms := ⟨E.keep, Same.refl _, E.sub, E.lst, E.slots, E.dis, E.len⟩
theorem EnvOk.back {B' : Hp} (E : EnvOk K C B' p0 ps H σ ms) (e : Same B B') : EnvOk K C B p0 ps H σ ms := ⟨E.keep, e.trans E.base, E.sub, E.lst, E.slots, E.dis, E.len⟩
theorem EnvOk.see (E : EnvOk K C B p0 ps H σ ms) {v : V} {d : PyData} (n : noL d = true) (h : Dp K H v d) : Dp K (hides ps H) v d := dp_tu (tu_hides E.lst) d v n h
theorem getSet {α : Type} {l : List α} {i j : Nat} {x y : α} (h : (l.set i x)[j]? = some y) : (j = i ∧ y = x ∧ i < l.length) ∨ (j ≠ i ∧ l[j]? = some y) := by
  by_cases e : j = i
  · subst e
    by_cases hl : j < l.length
    · rw [List.getElem?_set_self hl] at h
      exact .inl ⟨rfl, (Option.some.inj h).symm, hl⟩
    · rw [List.getElem?_eq_none (by simpa using hl)] at h; cases h
  · rw [List.getElem?_set_ne (Ne.symm e)] at h
    exact .inr ⟨e, h⟩
/-- a name is set to a datum -/
theorem EnvOk.put (E : EnvOk K C B p0 ps H σ ms) (i : Nat) {v : V} {d : PyData} (h : Dp K (hides ps H) v d) : EnvOk K C B p0 ps H (σ.set i (some v)) (ms.set i (.d d)) := by
  refine ⟨E.keep, E.base, E.sub, E.lst, fun j m hj => ?_, fun j k m n hjk hj hk a b => ?_, by rw [List.length_set, List.length_set, E.len]⟩
  · rcases getSet hj with ⟨rfl, rfl, hl⟩ | ⟨ne, hj⟩
    · rw [List.getElem?_set_self (by rw [E.len]; exact hl)]
      exact ⟨v, rfl, h⟩
    · rw [List.getElem?_set_ne (Ne.symm ne)]
      exact E.slots j m hj
  · rcases getSet hj with ⟨rfl, rfl, _⟩ | ⟨ne, hj⟩
    · cases a
    · rcases getSet hk with ⟨rfl, rfl, _⟩ | ⟨ne2, hk⟩
      · cases b
      · rw [List.getElem?_set_ne (Ne.symm ne), List.getElem?_set_ne (Ne.symm ne2)]
        exact E.dis j k m n hjk hj hk a b
/-- a name is forgotten -/
theorem EnvOk.drop (E : EnvOk K C B p0 ps H σ ms) (i : Nat) {o : Option V} : EnvOk K C B p0 ps H (σ.set i o) (ms.set i .no) := by
  refine ⟨E.keep, E.base, E.sub, E.lst, fun j m hj => ?_, fun j k m n hjk hj hk a b => ?_, by rw [List.length_set, List.length_set, E.len]⟩
  · rcases getSet hj with ⟨rfl, rfl, hl⟩ | ⟨ne, hj⟩
    · trivial
    · rw [List.getElem?_set_ne (Ne.symm ne)]
      exact E.slots j m hj
  · rcases getSet hj with ⟨rfl, rfl, _⟩ | ⟨ne, hj⟩
    · cases a
    · rcases getSet hk with ⟨rfl, rfl, _⟩ | ⟨ne2, hk⟩
      · cases b
      · rw [List.getElem?_set_ne (Ne.symm ne), List.getElem?_set_ne (Ne.symm ne2)]
        exact E.dis j k m n hjk hj hk a b
/-- a new list is laid -/
theorem EnvOk.lay {q : Addr} {o : HO} (E : EnvOk K C B p0 ps H σ ms) (h : H q = none) : EnvOk K C B p0 ps (upd H q o) σ ms := E.to (same_new h)
theorem SlotOk.more {s : Option (Option V)} {q : Addr} (hq : Same (hides ps H) (hides (q :: ps) H)) : ∀ {m : Slot}, SlotOk K C p0 ps H s m → SlotOk K C p0 (q :: ps) H s m
  | .no, _ => trivial
  | .d x, ⟨v, a, b⟩ => ⟨v, a, b.to hq⟩
  | .own xs, ⟨p, vs, a, b, c, d, f⟩ => ⟨p, vs, a, List.mem_cons_of_mem _ b, c, d, f.to hq⟩
  | .box _, ⟨a, c, d, sl, xs, i, c', s, n, h1, h2, r⟩ => ⟨a, List.mem_cons_of_mem _ c, d, sl, xs, i, c', s, n, h1, hq.seq h2, r⟩
/-- .. and hidden -/
theorem EnvOk.hide (E : EnvOk K C B p0 ps H σ ms) {q : Addr} {ys : List V} (h : H q = none) : EnvOk K C B p0 (q :: ps) (upd H q (.lst ys)) σ ms ∧ C q = none ∧ Same (hides ps H) (hides (q :: ps) (upd H q (.lst ys))) := by
  have s1 : Same (hides ps H) (hides (q :: ps) (upd H q (.lst ys))) := fun a o e => by
    obtain ⟨m, z⟩ := hides_some e
    have ne : a ≠ q := ne_of_none z h
    rw [hides_out (by simp [ne, m]), upd_ne ne]; exact z
  have hC : C q = none := E.keep.free h
  have qps : q ∉ ps := fun m => by obtain ⟨xs, z⟩ := E.lst q m; rw [h] at z; cases z
  refine ⟨⟨E.keep.trans (same_new h), E.base.trans s1, fun p hp => List.mem_cons_of_mem _ (E.sub p hp), fun p hp => ?_, fun i m hm => ?_, E.dis, E.len⟩, hC, s1⟩
  · rcases List.mem_cons.mp hp with rfl | hp
    · exact ⟨ys, upd_same⟩
    · obtain ⟨xs, z⟩ := E.lst p hp
      exact ⟨xs, same_new h _ _ z⟩
  · have z := E.slots i m hm
    cases m with
    | no => trivial
    | d x => obtain ⟨v, a, b⟩ := z; exact ⟨v, a, b.to s1⟩
    | own xs => obtain ⟨p, vs, a, b, c, d, f⟩ := z; exact ⟨p, vs, a, List.mem_cons_of_mem _ b, c, same_new h _ _ d, f.to s1⟩
    | box b => obtain ⟨a, c, d, sl, xs, i', c', s, n, h1, h2, r⟩ := z; exact ⟨a, List.mem_cons_of_mem _ c, d, sl, xs, i', c', s, n, same_new h _ _ h1, s1.seq h2, r⟩
/-- a name is set to a new list of one's own -/
theorem EnvOk.putOwn (E : EnvOk K C B p0 ps H σ ms) (i : Nat) {q : Addr} {ys : List V} {ds : List PyData} (h : H q = none) (hd : DpAll K (hides ps H) ys ds) :
    EnvOk K C B p0 (q :: ps) (upd H q (.lst ys)) (σ.set i (some (.ref q))) (ms.set i (.own ds)) := by
  obtain ⟨E1, hC, s1⟩ := E.hide (ys := ys) h
  have q0 : q ∉ p0 := fun m => by
    obtain ⟨xs, z⟩ := E.lst q (E.sub q m)
    rw [h] at z; cases z
  have hother : ∀ (j : Nat) (m : Slot), ms[j]? = some m → m.mut = true → σ[j]? ≠ some (some (V.ref q)) := fun j m hj hm z => by
    have w := E.slots j m hj
    cases m with
    | no => cases hm
    | d x => cases hm
    | own xs =>
      obtain ⟨p, vs, a, b, c, d, f⟩ := w
      rw [z] at a; cases a
      rw [h] at d; cases d
    | box b =>
      obtain ⟨a, c, d, f⟩ := w
      rw [z] at a; cases a
      obtain ⟨xs, y⟩ := E.lst _ c
      rw [h] at y; cases y
  refine ⟨E1.keep, E1.base, E1.sub, E1.lst, fun j m hj => ?_, fun j k m n hjk hj hk a b => ?_, by rw [List.length_set, List.length_set, E.len]⟩
  · rcases getSet hj with ⟨rfl, rfl, hl⟩ | ⟨ne, hj⟩
    · rw [List.getElem?_set_self (by rw [E.len]; exact hl)]
      exact ⟨q, ys, rfl, List.mem_cons_self, ⟨hC, q0⟩, upd_same, hd.to s1⟩
    · rw [List.getElem?_set_ne (Ne.symm ne)]
      exact E1.slots j m hj
  · rcases getSet hj with ⟨rfl, rfl, hl⟩ | ⟨ne, hj⟩
    · rcases getSet hk with ⟨rfl, rfl, _⟩ | ⟨ne2, hk⟩
      · exact absurd rfl hjk
      · rw [List.getElem?_set_self (by rw [E.len]; exact hl), List.getElem?_set_ne (Ne.symm ne2)]
        exact (hother k n hk b).symm
    · rcases getSet hk with ⟨ek, en, hl⟩ | ⟨ne2, hk2⟩
      · rw [ek, List.getElem?_set_self (by rw [E.len]; exact hl), List.getElem?_set_ne (Ne.symm ne)]
        exact hother j m hj a
      · rw [List.getElem?_set_ne (Ne.symm ne), List.getElem?_set_ne (Ne.symm ne2)]
        exact E.dis j k m n hjk hj hk2 a b
/-- a name is set to a hidden list that no other name holds -/
theorem EnvOk.own (E : EnvOk K C B p0 ps H σ ms) (i : Nat) {q : Addr} {ys : List V} {ds : List PyData} (hq : q ∈ ps) (q0 : q ∉ p0) (hC : C q = none) (h : H q = some (.lst ys)) (hd : DpAll K (hides ps H) ys ds)
    (hother : ∀ (j : Nat) (m : Slot), ms[j]? = some m → m.mut = true → σ[j]? ≠ some (some (V.ref q))) : EnvOk K C B p0 ps H (σ.set i (some (.ref q))) (ms.set i (.own ds)) := by
  refine ⟨E.keep, E.base, E.sub, E.lst, fun j m hj => ?_, fun j k m n hjk hj hk a b => ?_, by rw [List.length_set, List.length_set, E.len]⟩
  · rcases getSet hj with ⟨rfl, rfl, hl⟩ | ⟨ne, hj⟩
    · rw [List.getElem?_set_self (by rw [E.len]; exact hl)]
      exact ⟨q, ys, rfl, hq, ⟨hC, q0⟩, h, hd⟩
    · rw [List.getElem?_set_ne (Ne.symm ne)]
      exact E.slots j m hj
  · rcases getSet hj with ⟨rfl, rfl, hl⟩ | ⟨ne, hj⟩
    · rcases getSet hk with ⟨rfl, rfl, _⟩ | ⟨ne2, hk⟩
      · exact absurd rfl hjk
      · rw [List.getElem?_set_self (by rw [E.len]; exact hl), List.getElem?_set_ne (Ne.symm ne2)]
        exact (hother k n hk b).symm
    · rcases getSet hk with ⟨ek, en, hl⟩ | ⟨ne2, hk2⟩
      · rw [ek, List.getElem?_set_self (by rw [E.len]; exact hl), List.getElem?_set_ne (Ne.symm ne)]
        exact hother j m hj a
      · rw [List.getElem?_set_ne (Ne.symm ne), List.getElem?_set_ne (Ne.symm ne2)]
        exact E.dis j k m n hjk hj hk2 a b
/-- a list of one's own is given up: from now on it is a datum -/
theorem EnvOk.free (E : EnvOk K C B p0 ps H σ ms) {i : Nat} {ds : List PyData} (hi : ms[i]? = some (.own ds)) : ∃ qs, EnvOk K C B p0 qs H σ (ms.set i (.d (.list ds))) := by
  obtain ⟨p, vs, a, b, ⟨c, c0⟩, d, f⟩ := E.slots i _ hi
  have mem : ∀ x, x ∈ ps.filter (fun y => y ≠ p) ↔ x ∈ ps ∧ x ≠ p := fun x => by simp [List.mem_filter]
  have sb : Same (hides ps H) (hides (ps.filter fun y => y ≠ p) H) := hides_sub H fun x hx => ((mem x).mp hx).1
  have ip : p ∉ ps.filter (fun y => y ≠ p) := fun z => ((mem p).mp z).2 rfl
  refine ⟨ps.filter fun y => y ≠ p, E.keep, E.base.trans sb, fun x hx => (mem x).mpr ⟨E.sub x hx, fun z => c0 (z ▸ hx)⟩, fun x hx => E.lst x ((mem x).mp hx).1, fun j m hj => ?_, fun j k m n hjk hj hk a' b' => ?_, by rw [List.length_set, E.len]⟩
  · rcases getSet hj with ⟨rfl, rfl, hl⟩ | ⟨ne, hj⟩
    · exact ⟨.ref p, a, .lst (.inl (.inl (by rw [hides_out ip]; exact d))) (f.to sb)⟩
    · have w := E.slots j m hj
      cases m with
      | no => trivial
      | d x => obtain ⟨v, a, b⟩ := w; exact ⟨v, a, b.to sb⟩
      | own xs =>
        obtain ⟨p2, vs2, a2, b2, c2, d2, f2⟩ := w
        have np : p2 ≠ p := fun z => by
          subst z
          exact E.dis j i _ _ ne hj hi rfl rfl (a2.trans a.symm)
        exact ⟨p2, vs2, a2, (mem _).mpr ⟨b2, np⟩, c2, d2, f2.to sb⟩
      | box b2 =>
        obtain ⟨a2, c2, d2, sl, xs, i', c', s, n, h1, h2, r⟩ := w
        have np : b2 ≠ p := fun z => by
          subst z
          exact E.dis j i _ _ ne hj hi rfl rfl (a2.trans a.symm)
        exact ⟨a2, (mem _).mpr ⟨c2, np⟩, d2, sl, xs, i', c', s, n, h1, sb.seq h2, r⟩
  · rcases getSet hj with ⟨rfl, rfl, _⟩ | ⟨ne, hj⟩
    · cases a'
    · rcases getSet hk with ⟨rfl, rfl, _⟩ | ⟨ne2, hk⟩
      · cases b'
      · exact E.dis j k m n hjk hj hk a' b'
/-- behind a call that has drawn from the box -/
theorem EnvOk.boxed (E : EnvOk K C B p0 ps H σ ms) {i : Nat} {b : Addr} (hi : ms[i]? = some (.box b)) (e : Same (hides [b] H) (hides [b] H')) (x : BoxAt K ps H' b) :
    EnvOk K C B p0 ps H' σ ms ∧ Same (hides ps H) (hides ps H') := by
  obtain ⟨hb, c, d, f⟩ := E.slots i _ hi
  have at_ : ∀ y o, y ≠ b → H y = some o → H' y = some o := fun y o ne z => (hides_some (e y o (by rw [hides_out (by simpa using ne)]; exact z))).2
  have hb' : ∃ xs, H' b = some (.lst xs) := by obtain ⟨sl, xs, i, c, s, n, h1, _⟩ := x; exact ⟨_, h1⟩
  have s1 : Same (hides ps H) (hides ps H') := fun y o z => by
    obtain ⟨m, z⟩ := hides_some z
    rw [hides_out m]
    exact at_ y o (fun q => m (q ▸ c)) z
  refine ⟨⟨fun y o z => at_ y o (fun q => by rw [q, d] at z; cases z) (E.keep y o z), E.base.trans s1, E.sub, fun y hy => ?_, fun j m hj => ?_, E.dis, E.len⟩, s1⟩
  · by_cases q : y = b
    · rw [q]; exact hb'
    · obtain ⟨xs, z⟩ := E.lst y hy
      exact ⟨xs, at_ y _ q z⟩
  · have w := E.slots j m hj
    cases m with
    | no => trivial
    | d x => obtain ⟨v, a, b⟩ := w; exact ⟨v, a, b.to s1⟩
    | own xs =>
      obtain ⟨p2, vs2, a2, b2, c2, d2, f2⟩ := w
      have ne : j ≠ i := fun z => by rw [z, hi] at hj; cases hj
      have np : p2 ≠ b := fun z => by
        subst z
        exact E.dis j i _ _ ne hj hi rfl rfl (a2.trans hb.symm)
      exact ⟨p2, vs2, a2, b2, c2, at_ _ _ np d2, f2.to s1⟩
    | box b2 =>
      obtain ⟨a2, c2, d2, f2⟩ := w
      by_cases ne : j = i
      · subst ne
        rw [hb] at a2; cases a2
        exact ⟨hb, c, d, x⟩
      · have np : b2 ≠ b := fun z => by
          subst z
          exact E.dis j i _ _ ne hj hi rfl rfl (a2.trans hb.symm)
        obtain ⟨sl, xs, i', c', s, n, h1, h2, r⟩ := f2
        exact ⟨a2, c2, d2, sl, xs, i', c', s, n, at_ _ _ np h1, s1.seq h2, r⟩
/-- a list of one's own is changed -/
theorem EnvOk.write (E : EnvOk K C B p0 ps H σ ms) {i : Nat} {p : Addr} {ds es : List PyData} {ys : List V} (hi : ms[i]? = some (.own ds)) (hp : σ[i]? = some (some (.ref p))) (hd : DpAll K (hides ps H) ys es) :
    EnvOk K C B p0 ps (upd H p (.lst ys)) σ (ms.set i (.own es)) := by
  obtain ⟨p', vs, a, b, c, d, f⟩ := E.slots i _ hi
  rw [hp] at a; cases a
  have hu : hides ps (upd H p (.lst ys)) = hides ps H := hides_upd b
  have il : i < ms.length := (List.getElem?_eq_some_iff.mp hi).1
  refine ⟨fun x o e => ?_, by rw [hu]; exact E.base, E.sub, fun x hx => ?_, fun j m hj => ?_, fun j k m n hjk hj hk a' b' => ?_, by rw [List.length_set, E.len]⟩
  · rw [upd_ne (ne_of_none e c.1)]; exact E.keep x o e
  · by_cases z : x = p
    · subst z; exact ⟨ys, upd_same⟩
    · rw [upd_ne z]; exact E.lst x hx
  · rcases getSet hj with ⟨rfl, rfl, hl⟩ | ⟨ne, hj⟩
    · exact ⟨p, ys, hp, b, c, upd_same, by rw [hu]; exact hd⟩
    · have w := E.slots j m hj
      cases m with
      | no => trivial
      | d x => obtain ⟨v, a, b⟩ := w; exact ⟨v, a, by rw [hu]; exact b⟩
      | own xs =>
        obtain ⟨p2, vs2, a2, b2, c2, d2, f2⟩ := w
        have np : p2 ≠ p := fun z => by
          subst z
          exact E.dis j i _ _ ne hj hi rfl rfl (a2.trans hp.symm)
        exact ⟨p2, vs2, a2, b2, c2, by rw [upd_ne np]; exact d2, by rw [hu]; exact f2⟩
      | box b2 =>
        obtain ⟨a2, c2, d2, sl, xs, i', c', s, n, h1, h2, r⟩ := w
        have np : b2 ≠ p := fun z => by
          subst z
          exact E.dis j i _ _ ne hj hi rfl rfl (a2.trans hp.symm)
        exact ⟨a2, c2, d2, sl, xs, i', c', s, n, by rw [upd_ne np]; exact h1, by rw [hu]; exact h2, r⟩
  · have mj : ∃ m', ms[j]? = some m' ∧ m'.mut = true := by
      rcases getSet hj with ⟨rfl, rfl, _⟩ | ⟨ne, hj⟩
      · exact ⟨_, hi, rfl⟩
      · exact ⟨m, hj, a'⟩
    have mk : ∃ m', ms[k]? = some m' ∧ m'.mut = true := by
      rcases getSet hk with ⟨rfl, rfl, _⟩ | ⟨ne, hk⟩
      · exact ⟨_, hi, rfl⟩
      · exact ⟨n, hk, b'⟩
    obtain ⟨m1, q1, q2⟩ := mj
    obtain ⟨m2, q3, q4⟩ := mk
    exact E.dis j k m1 m2 hjk q1 q3 q2 q4
end
end Ct
/-! What an expression, a test, a statement makes of a state of slots. -/
namespace Ct
open PySem PySem.Spec PyProof.Rows L2

def Ev (K : PySem.W.Frag) (te : TE) (ms : List Slot) (P : PyData → Prop) : Prop :=
  ∀ (C B : Hp) (p0 ps : List Addr) (σ : L2.St) (H : Hp), EnvOk K C B p0 ps H σ ms → ∀ Q : VK,
    (∀ v H' d, P d → EnvOk K C B p0 ps H' σ ms → Dp K (hides ps H') v d → Q v H') → te σ H Q
def EvA (K : PySem.W.Frag) (ta : TA) (ms : List Slot) (P : List PyData → Prop) : Prop :=
  ∀ (C B : Hp) (p0 ps : List Addr) (σ : L2.St) (H : Hp), EnvOk K C B p0 ps H σ ms → ∀ Q : List V → Hp → Prop,
    (∀ vs H' ds, P ds → EnvOk K C B p0 ps H' σ ms → DpAll K (hides ps H') vs ds → Q vs H') → ta σ H Q
def EvT (K : PySem.W.Frag) (tt : TT) (ms : List Slot) (P : Bool → Prop) : Prop :=
  ∀ (C B : Hp) (p0 ps : List Addr) (σ : L2.St) (H : Hp), EnvOk K C B p0 ps H σ ms → ∀ Q : Bool → Hp → Prop,
    (∀ b H', P b → EnvOk K C B p0 ps H' σ ms → Q b H') → tt σ H Q
def EvO (K : PySem.W.Frag) (to : TO) (ms : List Slot) (P : Option Int → Prop) : Prop :=
  ∀ (C B : Hp) (p0 ps : List Addr) (σ : L2.St) (H : Hp), EnvOk K C B p0 ps H σ ms → ∀ Q : Option Int → Hp → Prop,
    (∀ o H', P o → EnvOk K C B p0 ps H' σ ms → Q o H') → to σ H Q
/-- a new list of one's own -/
def EvN (K : PySem.W.Frag) (te : TE) (ms : List Slot) (P : List PyData → Prop) : Prop :=
  ∀ (C B : Hp) (p0 ps : List Addr) (σ : L2.St) (H : Hp), EnvOk K C B p0 ps H σ ms → ∀ Q : VK,
    (∀ q ys H' ds, P ds → H' q = some (.lst ys) → q ∉ ps → q ∉ p0 → C q = none → EnvOk K C B p0 (q :: ps) H' σ ms → (∀ (j : Nat) (m : Slot), ms[j]? = some m → m.mut = true → σ[j]? ≠ some (some (V.ref q))) → DpAll K (hides (q :: ps) H') ys ds → Q (.ref q) H') → te σ H Q
section
variable {K : PySem.W.Frag} {ms : List Slot} {ta tb te : TE} {al ar : TA} {t u : TT} {P P1 P2 : PyData → Prop} {PS : List PyData → Prop} {C B : Hp} {p0 ps : List Addr} {H : Hp} {σ : L2.St}
theorem Ev.run (h : Ev K te ms P) (E : EnvOk K C B p0 ps H σ ms) {Q : VK} (k : ∀ v H' d, P d → EnvOk K C B p0 ps H' σ ms → Same (hides ps H) (hides ps H') → Dp K (hides ps H') v d → Q v H') : te σ H Q :=
  h C (hides ps H) p0 ps σ H E.self Q fun v H' d p E' x => k v H' d p (E'.back E.base) E'.base x
theorem EvA.run (h : EvA K al ms PS) (E : EnvOk K C B p0 ps H σ ms) {Q : List V → Hp → Prop} (k : ∀ vs H' ds, PS ds → EnvOk K C B p0 ps H' σ ms → Same (hides ps H) (hides ps H') → DpAll K (hides ps H') vs ds → Q vs H') : al σ H Q :=
  h C (hides ps H) p0 ps σ H E.self Q fun v H' d p E' x => k v H' d p (E'.back E.base) E'.base x
theorem EvT.run {PT : Bool → Prop} (h : EvT K t ms PT) (E : EnvOk K C B p0 ps H σ ms) {Q : Bool → Hp → Prop} (k : ∀ b H', PT b → EnvOk K C B p0 ps H' σ ms → Same (hides ps H) (hides ps H') → Q b H') : t σ H Q :=
  h C (hides ps H) p0 ps σ H E.self Q fun b H' p E' => k b H' p (E'.back E.base) E'.base
theorem EvO.run {to : TO} {PO : Option Int → Prop} (h : EvO K to ms PO) (E : EnvOk K C B p0 ps H σ ms) {Q : Option Int → Hp → Prop} (k : ∀ o H', PO o → EnvOk K C B p0 ps H' σ ms → Same (hides ps H) (hides ps H') → Q o H') : to σ H Q :=
  h C (hides ps H) p0 ps σ H E.self Q fun b H' p E' => k b H' p (E'.back E.base) E'.base
theorem Ev.weak (h : Ev K te ms P1) (w : ∀ d, P1 d → P d) : Ev K te ms P := fun C B p0 ps σ H E Q k => h C B p0 ps σ H E Q fun v H' d p => k v H' d (w d p)
theorem EvT.weak {PT PT' : Bool → Prop} (h : EvT K t ms PT) (w : ∀ b, PT b → PT' b) : EvT K t ms PT' := fun C B p0 ps σ H E Q k => h C B p0 ps σ H E Q fun b H' p => k b H' (w b p)
theorem ev_var {i : Nat} {d : PyData} (h : ms[i]? = some (.d d)) : Ev K (tVar i) ms (· = d) := fun C B p0 ps σ H E Q k => by
  obtain ⟨v, a, b⟩ := E.slots i _ h
  exact ⟨v, a, k v H d rfl E b⟩
theorem ev_c {v : V} {d : PyData} (h : ∀ H, Dp K H v d) : Ev K (tC v) ms (· = d) := fun C B p0 ps σ H E Q k => k v H d rfl E (h _)
theorem ev_int {i : Int} : Ev K (tC (.int i)) ms (· = .int i) := ev_c fun _ => .int i
theorem ev_str {i : Str} : Ev K (tC (.str i)) ms (· = .str i) := ev_c fun _ => .str i
theorem ev_bl {i : Bool} : Ev K (tC (.bl i)) ms (· = .bool i) := ev_c fun _ => .bl i
theorem ev_non : Ev K (tC .non) ms (· = .none) := ev_c fun _ => .non
/-- a two-place operation on values -/
theorem ev_op {r : R2} (ha : Ev K ta ms P1) (hb : Ev K tb ms P2)
    (hr : ∀ (ps : List Addr) (H : Hp) x y d1 d2 (Q : VK), (∀ p ∈ ps, ∃ xs, H p = some (.lst xs)) → P1 d1 → P2 d2 → Dp K (hides ps H) x d1 → Dp K (hides ps H) y d2 → (∀ v H' d, P d → Same H H' → Dp K (hides ps H') v d → Q v H') → r x y H Q) : Ev K (tOp r ta tb) ms P := fun C B p0 ps σ H E Q k =>
  ha.run E fun x H1 d1 p1 E1 s1 h1 => hb.run E1 fun y H2 d2 p2 E2 s2 h2 => hr ps H2 x y d1 d2 Q E2.lst p1 p2 (h1.to s2) h2 fun v H' d p s h => k v H' d p (E2.to s) h
theorem ev_un {r : V → Hp → VK → Prop} (ha : Ev K ta ms P1)
    (hr : ∀ (ps : List Addr) (H : Hp) x d1 (Q : VK), (∀ p ∈ ps, ∃ xs, H p = some (.lst xs)) → P1 d1 → Dp K (hides ps H) x d1 → (∀ v H' d, P d → Same H H' → Dp K (hides ps H') v d → Q v H') → r x H Q) : Ev K (tUn r ta) ms P := fun C B p0 ps σ H E Q k =>
  ha.run E fun x H1 d1 p1 E1 s1 h1 => hr ps H1 x d1 Q E1.lst p1 h1 fun v H' d p s h => k v H' d p (E1.to s) h
theorem ev_cb {r : List V → Hp → VK → Prop} (ha : EvA K al ms PS)
    (hr : ∀ (ps : List Addr) (H : Hp) xs ds (Q : VK), (∀ p ∈ ps, ∃ xs, H p = some (.lst xs)) → PS ds → DpAll K (hides ps H) xs ds → (∀ v H' d, P d → Same H H' → Dp K (hides ps H') v d → Q v H') → r xs H Q) : Ev K (tCB r al) ms P := fun C B p0 ps σ H E Q k =>
  ha.run E fun xs H1 ds p1 E1 s1 h1 => hr ps H1 xs ds Q E1.lst p1 h1 fun v H' d p s h => k v H' d p (E1.to s) h
theorem ev_I0 {g : Int → Int → Int} (ha : Ev K ta ms P1) (hb : Ev K tb ms P2) (h : ∀ d1 d2, P1 d1 → P2 d2 → ∃ i j, d1 = .int i ∧ d2 = .int j ∧ P (.int (g i j))) : Ev K (tOp (rI0 fun i j => .int (g i j)) ta tb) ms P :=
  ev_op ha hb fun ps H x y d1 d2 Q _ p1 p2 h1 h2 k => by
    obtain ⟨i, j, rfl, rfl, p⟩ := h d1 d2 p1 p2
    exact ⟨i, j, dp_int h1, dp_int h2, k _ H _ p (Same.refl _) (.int _)⟩
theorem ev_I {Cn : Int → Int → Prop} {g : Int → Int → Int} (ha : Ev K ta ms P1) (hb : Ev K tb ms P2) (h : ∀ d1 d2, P1 d1 → P2 d2 → ∃ i j, d1 = .int i ∧ d2 = .int j ∧ Cn i j ∧ P (.int (g i j))) : Ev K (tOp (rI Cn fun i j => .int (g i j)) ta tb) ms P :=
  ev_op ha hb fun ps H x y d1 d2 Q _ p1 p2 h1 h2 k => by
    obtain ⟨i, j, rfl, rfl, c, p⟩ := h d1 d2 p1 p2
    exact ⟨i, j, dp_int h1, dp_int h2, c, k _ H _ p (Same.refl _) (.int _)⟩
theorem ev_B0 {g : Int → Int → Bool} (ha : Ev K ta ms P1) (hb : Ev K tb ms P2) (h : ∀ d1 d2, P1 d1 → P2 d2 → ∃ i j, d1 = .int i ∧ d2 = .int j ∧ P (.bool (g i j))) : Ev K (tOp (rI0 fun i j => .bl (g i j)) ta tb) ms P :=
  ev_op ha hb fun ps H x y d1 d2 Q _ p1 p2 h1 h2 k => by
    obtain ⟨i, j, rfl, rfl, p⟩ := h d1 d2 p1 p2
    exact ⟨i, j, dp_int h1, dp_int h2, k _ H _ p (Same.refl _) (.bl _)⟩
theorem ev_eqI (ha : Ev K ta ms P1) (hb : Ev K tb ms P2) (h : ∀ d1 d2, P1 d1 → P2 d2 → ∃ i j, d1 = .int i ∧ d2 = .int j ∧ P (.bool (decide (i = j)))) : Ev K (tOp rEq ta tb) ms P :=
  ev_op ha hb fun ps H x y d1 d2 Q _ p1 p2 h1 h2 k => by
    obtain ⟨i, j, rfl, rfl, p⟩ := h d1 d2 p1 p2
    rw [dp_int h1, dp_int h2]
    exact ⟨rfl, by rw [show decide (V.int i = V.int j) = decide (i = j) by simp]; exact k _ H _ p (Same.refl _) (.bl _)⟩
theorem ev_neI (ha : Ev K ta ms P1) (hb : Ev K tb ms P2) (h : ∀ d1 d2, P1 d1 → P2 d2 → ∃ i j, d1 = .int i ∧ d2 = .int j ∧ P (.bool (!decide (i = j)))) : Ev K (tOp rNe ta tb) ms P :=
  ev_op ha hb fun ps H x y d1 d2 Q _ p1 p2 h1 h2 k => by
    obtain ⟨i, j, rfl, rfl, p⟩ := h d1 d2 p1 p2
    rw [dp_int h1, dp_int h2]
    exact ⟨rfl, by rw [show decide (V.int i = V.int j) = decide (i = j) by simp]; exact k _ H _ p (Same.refl _) (.bl _)⟩
theorem ev_neB (ha : Ev K ta ms P1) (hb : Ev K tb ms P2) (h : ∀ d1 d2, P1 d1 → P2 d2 → ∃ i j, d1 = .bool i ∧ d2 = .bool j ∧ P (.bool (!decide (i = j)))) : Ev K (tOp rNe ta tb) ms P :=
  ev_op ha hb fun ps H x y d1 d2 Q _ p1 p2 h1 h2 k => by
    obtain ⟨i, j, rfl, rfl, p⟩ := h d1 d2 p1 p2
    rw [dp_bool h1, dp_bool h2]
    exact ⟨rfl, by rw [show decide (V.bl i = V.bl j) = decide (i = j) by simp]; exact k _ H _ p (Same.refl _) (.bl _)⟩
theorem ev_eqB (ha : Ev K ta ms P1) (hb : Ev K tb ms P2) (h : ∀ d1 d2, P1 d1 → P2 d2 → ∃ i j, d1 = .bool i ∧ d2 = .bool j ∧ P (.bool (decide (i = j)))) : Ev K (tOp rEq ta tb) ms P :=
  ev_op ha hb fun ps H x y d1 d2 Q _ p1 p2 h1 h2 k => by
    obtain ⟨i, j, rfl, rfl, p⟩ := h d1 d2 p1 p2
    rw [dp_bool h1, dp_bool h2]
    exact ⟨rfl, by rw [show decide (V.bl i = V.bl j) = decide (i = j) by simp]; exact k _ H _ p (Same.refl _) (.bl _)⟩
theorem ev_eqD (ha : Ev K ta ms P1) (hb : Ev K tb ms P2) (h : ∀ d1 d2, P1 d1 → P2 d2 → SeqAt.shaped d1 = true ∧ SeqAt.shaped d2 = true ∧ P (.bool (PyData.eqv d1 d2))) : Ev K (tOp (rEqD K) ta tb) ms P :=
  ev_op ha hb fun ps H x y d1 d2 Q _ p1 p2 h1 h2 k => by
    obtain ⟨a, b, p⟩ := h d1 d2 p1 p2
    exact ⟨d1, d2, h1.to (hides_le _ _), h2.to (hides_le _ _), a, b, k _ H _ p (Same.refl _) (.bl _)⟩
theorem ev_neD (ha : Ev K ta ms P1) (hb : Ev K tb ms P2) (h : ∀ d1 d2, P1 d1 → P2 d2 → SeqAt.shaped d1 = true ∧ SeqAt.shaped d2 = true ∧ P (.bool (!PyData.eqv d1 d2))) : Ev K (tOp (rNeD K) ta tb) ms P :=
  ev_op ha hb fun ps H x y d1 d2 Q _ p1 p2 h1 h2 k => by
    obtain ⟨a, b, p⟩ := h d1 d2 p1 p2
    exact ⟨d1, d2, h1.to (hides_le _ _), h2.to (hides_le _ _), a, b, k _ H _ p (Same.refl _) (.bl _)⟩
theorem ev_ixT (ha : Ev K ta ms P1) (hb : Ev K tb ms P2) (h : ∀ d1 d2, P1 d1 → P2 d2 → ∃ ds i d, d1 = .tuple ds ∧ d2 = .int i ∧ atI ds i = some d ∧ P d) : Ev K (tOp (rIxT K) ta tb) ms P :=
  ev_op ha hb fun ps H x y d1 d2 Q _ p1 p2 h1 h2 k => by
    obtain ⟨ds, i, d, rfl, rfl, e, p⟩ := h d1 d2 p1 p2
    obtain ⟨a, xs, rfl, hs, ha⟩ := dp_tuple h1
    obtain ⟨v, e2, hv⟩ := dp_at ha e
    rw [dp_int h2]
    exact ⟨a, xs, i, v, rfl, rfl, same_seqT (hides_le _ _) hs, e2, k v H d p (Same.refl _) hv⟩
theorem ev_ixL (ha : Ev K ta ms P1) (hb : Ev K tb ms P2) (h : ∀ d1 d2, P1 d1 → P2 d2 → ∃ ds i d, d1 = .list ds ∧ d2 = .int i ∧ atI ds i = some d ∧ P d) : Ev K (tOp (rIxL K) ta tb) ms P :=
  ev_op ha hb fun ps H x y d1 d2 Q _ p1 p2 h1 h2 k => by
    obtain ⟨ds, i, d, rfl, rfl, e, p⟩ := h d1 d2 p1 p2
    obtain ⟨a, xs, rfl, hs, ha⟩ := dp_list h1
    obtain ⟨v, e2, hv⟩ := dp_at ha e
    rw [dp_int h2]
    exact ⟨a, xs, i, v, rfl, rfl, (hides_le _ _).seq hs, e2, k v H d p (Same.refl _) hv⟩
/-- a list of one's own, read at a place -/
theorem ev_ixO {i : Nat} {ds : List PyData} (hi : ms[i]? = some (.own ds)) (hb : Ev K tb ms P2) (h : ∀ d2, P2 d2 → ∃ k d, d2 = .int k ∧ atI ds k = some d ∧ P d) : Ev K (tOp (rIxL K) (tVar i) tb) ms P := fun C B p0 ps σ H E Q k => by
  obtain ⟨p, vs, a, b, c, d, f⟩ := E.slots i _ hi
  refine ⟨.ref p, a, hb.run E fun y H2 d2 p2 E2 s2 h2 => ?_⟩
  obtain ⟨p', vs2, a2, b2, c2, e2, f2⟩ := E2.slots i _ hi
  rw [a] at a2; cases a2
  obtain ⟨j, dd, rfl, e, pp⟩ := h d2 p2
  obtain ⟨v, e3, hv⟩ := dp_at f2 e
  rw [dp_int h2]
  exact ⟨p, vs2, j, v, rfl, rfl, .inl (.inl e2), e3, k v H2 dd pp E2 hv⟩
/-- the length of a list of one's own -/
theorem ev_lenO {i : Nat} {ds : List PyData} (hi : ms[i]? = some (.own ds)) (p : P (.int (ds.length : Int))) : Ev K (tCB (fun xs H Q => ∃ p ys, xs = [.ref p] ∧ (SqL K H p ys ∨ SqT K H p ys) ∧ Q (.int ys.length) H) (tCons (tVar i) tNil)) ms P := fun C B p0 ps σ H E Q k => by
  obtain ⟨q, vs, a, b, c, d, f⟩ := E.slots i _ hi
  refine ⟨.ref q, a, q, vs, rfl, .inl (.inl (.inl d)), ?_⟩
  rw [dp_len f]
  exact k _ H _ p E (.int _)
theorem ev_len (ha : EvA K al ms PS) (h : ∀ ds, PS ds → ∃ xs, (ds = [.list xs] ∨ ds = [.tuple xs]) ∧ P (.int (xs.length : Int))) : Ev K (tCB (fun xs H Q => ∃ p ys, xs = [.ref p] ∧ (SqL K H p ys ∨ SqT K H p ys) ∧ Q (.int ys.length) H) al) ms P :=
  ev_cb ha fun ps H xs ds Q _ p1 h1 k => by
    obtain ⟨zs, e, p⟩ := h ds p1
    rcases e with rfl | rfl
    · cases h1 with
      | cons h2 h3 =>
        cases h3
        obtain ⟨a, ys, rfl, hs, ha⟩ := dp_list h2
        exact ⟨a, ys, rfl, .inl ((hides_le _ _).seq hs), by rw [dp_len ha]; exact k _ H _ p (Same.refl _) (.int _)⟩
    · cases h1 with
      | cons h2 h3 =>
        cases h3
        obtain ⟨a, ys, rfl, hs, ha⟩ := dp_tuple h2
        exact ⟨a, ys, rfl, .inr (same_seqT (hides_le _ _) hs), by rw [dp_len ha]; exact k _ H _ p (Same.refl _) (.int _)⟩
theorem ev_abs (ha : EvA K al ms PS) (h : ∀ ds, PS ds → ∃ i, ds = [.int i] ∧ P (.int (if i < 0 then -i else i))) : Ev K (tCB (fun xs H Q => ∃ i, xs = [.int i] ∧ Q (.int (if i < 0 then -i else i)) H) al) ms P :=
  ev_cb ha fun ps H xs ds Q _ p1 h1 k => by
    obtain ⟨i, rfl, p⟩ := h ds p1
    cases h1 with
    | cons h2 h3 =>
      cases h3
      exact ⟨i, by rw [dp_int h2], k _ H _ p (Same.refl _) (.int _)⟩
def isNo : PyData → Bool
  | .none => true
  | _ => false
theorem ev_isN (ha : Ev K ta ms P1) (h : ∀ d, P1 d → P (.bool (isNo d))) : Ev K (tOp (fun x y H Q => y = .non ∧ Q (.bl (decide (x = .non))) H) ta (tC .non)) ms P :=
  ev_op ha ev_non fun ps H x y d1 d2 Q _ p1 p2 h1 h2 k => by
    subst p2
    refine ⟨dp_none h2, ?_⟩
    have e : decide (x = .non) = isNo d1 := by
      cases d1 <;> cases h1 <;> simp [isNo]
    rw [e]
    exact k _ H _ (h d1 p1) (Same.refl _) (.bl _)
theorem ea_nil : EvA K tNil ms (· = []) := fun C B p0 ps σ H E Q k => k [] H [] rfl E .nil
theorem ea_cons (ha : Ev K te ms P) (hr : EvA K ar ms PS) : EvA K (tCons te ar) ms (fun ds => ∃ d r, ds = d :: r ∧ P d ∧ PS r) := fun C B p0 ps σ H E Q k =>
  ha.run E fun x H1 d p E1 s1 h1 => hr.run E1 fun xs H2 r pr E2 s2 h2 => k (x :: xs) H2 (d :: r) ⟨d, r, rfl, p, pr⟩ E2 (.cons (h1.to s2) h2)
theorem EvA.weak {PS' : List PyData → Prop} (h : EvA K al ms PS) (w : ∀ d, PS d → PS' d) : EvA K al ms PS' := fun C B p0 ps σ H E Q k => h C B p0 ps σ H E Q fun v H' d p => k v H' d (w d p)
theorem ea_1 {d : PyData} (ha : Ev K te ms (· = d)) : EvA K (tCons te tNil) ms (· = [d]) := (ea_cons ha ea_nil).weak fun ds ⟨_, _, a, b, c⟩ => by rw [a, b, c]
theorem ea_2 {d e : PyData} (ha : Ev K ta ms (· = d)) (hb : Ev K tb ms (· = e)) : EvA K (tCons ta (tCons tb tNil)) ms (· = [d, e]) := (ea_cons ha (ea_1 hb)).weak fun ds ⟨_, _, a, b, c⟩ => by rw [a, b, c]
theorem ea_3 {tc : TE} {d e f : PyData} (ha : Ev K ta ms (· = d)) (hb : Ev K tb ms (· = e)) (hc : Ev K tc ms (· = f)) : EvA K (tCons ta (tCons tb (tCons tc tNil))) ms (· = [d, e, f]) := (ea_cons ha (ea_2 hb hc)).weak fun ds ⟨_, _, a, b, c⟩ => by rw [a, b, c]
theorem ev_tup (ha : EvA K al ms PS) (h : ∀ ds, PS ds → ds.length ≤ 1000 ∧ P (.tuple ds)) : Ev K (tTup al) ms P := fun C B p0 ps σ H E Q k =>
  ha.run E fun xs H1 ds p1 E1 s1 h1 => by
    obtain ⟨a, b⟩ := h ds p1
    refine ⟨by rw [dp_len h1]; exact Nat.le_of_lt (small1000 a), fun p hp => ?_⟩
    have s : Same H1 (upd H1 p (.tup xs)) := same_new hp
    have np : p ∉ ps := fun m => by obtain ⟨ys, z⟩ := E1.lst p m; rw [hp] at z; cases z
    refine k _ _ _ b (E1.to s) (.tup (.inl (.inl (by rw [hides_out np]; exact upd_same))) (h1.to (hides_mono ps s)))
theorem ev_lst (ha : EvA K al ms PS) (h : ∀ ds, PS ds → ds.length ≤ 1000 ∧ P (.list ds)) : Ev K (tLst al) ms P := fun C B p0 ps σ H E Q k =>
  ha.run E fun xs H1 ds p1 E1 s1 h1 => by
    obtain ⟨a, b⟩ := h ds p1
    refine ⟨by rw [dp_len h1]; exact Nat.le_of_lt (small1000 a), fun p hp => ?_⟩
    have s : Same H1 (upd H1 p (.lst xs)) := same_new hp
    have np : p ∉ ps := fun m => by obtain ⟨ys, z⟩ := E1.lst p m; rw [hp] at z; cases z
    refine k _ _ _ b (E1.to s) (.lst (.inl (.inl (by rw [hides_out np]; exact upd_same))) (h1.to (hides_mono ps s)))
/-- a list that nobody knew is one's own -/
theorem own_of {q : Addr} {ys : List V} (E : EnvOk K C B p0 ps H σ ms) (h : H q = none) : q ∉ ps ∧ q ∉ p0 ∧ C q = none ∧ EnvOk K C B p0 (q :: ps) (upd H q (.lst ys)) σ ms ∧ Same (hides ps H) (hides (q :: ps) (upd H q (.lst ys))) ∧
    (∀ (j : Nat) (m : Slot), ms[j]? = some m → m.mut = true → σ[j]? ≠ some (some (V.ref q))) := by
  obtain ⟨E1, hC, s1⟩ := E.hide (ys := ys) h
  refine ⟨fun m => ?_, fun m => ?_, hC, E1, s1, fun j m hj hm z => ?_⟩
  · obtain ⟨xs, z⟩ := E.lst q m
    rw [h] at z; cases z
  · obtain ⟨xs, z⟩ := E.lst q (E.sub q m)
    rw [h] at z; cases z
  · have w := E.slots j m hj
    cases m with
    | no => cases hm
    | d x => cases hm
    | own xs =>
      obtain ⟨p, vs, a, b, c, d, f⟩ := w
      rw [z] at a; cases a
      rw [h] at d; cases d
    | box b =>
      obtain ⟨a, c, d, f⟩ := w
      rw [z] at a; cases a
      obtain ⟨xs, y⟩ := E.lst _ c
      rw [h] at y; cases y
theorem en_lst {PL : List PyData → Prop} (ha : EvA K al ms PL) (h : ∀ ds, PL ds → ds.length ≤ 1000) : EvN K (tLst al) ms PL := fun C B p0 ps σ H E Q k =>
  ha.run E fun xs H1 ds p1 E1 s1 h1 => by
    refine ⟨by rw [dp_len h1]; exact Nat.le_of_lt (small1000 (h ds p1)), fun p hp => ?_⟩
    obtain ⟨f, a, b, c, d, e⟩ := own_of (ys := xs) E1 hp
    exact k p xs _ ds p1 upd_same f a b c e (h1.to d)
/-- list(x) -/
theorem en_list {PL : List PyData → Prop} (ha : EvA K al ms PS) (h : ∀ ds, PS ds → ∃ xs, (ds = [.list xs] ∨ ds = [.tuple xs]) ∧ PL xs) : EvN K (tCB (fun xs H Q => ∃ p ys, xs = [.ref p] ∧ (SqL K H p ys ∨ SqT K H p ys) ∧ ∀ l, H l = none → Q (.ref l) (upd H l (.lst ys))) al) ms PL := fun C B p0 ps σ H E Q k =>
  ha.run E fun xs H1 ds p1 E1 s1 h1 => by
    obtain ⟨zs, e, pz⟩ := h ds p1
    have key : ∀ a ys, DpAll K (hides ps H1) ys zs → (SqL K H1 a ys ∨ SqT K H1 a ys) → ∃ p ys, [V.ref a] = [.ref p] ∧ (SqL K H1 p ys ∨ SqT K H1 p ys) ∧ ∀ l, H1 l = none → Q (.ref l) (upd H1 l (.lst ys)) := fun a ys hz hs => by
      refine ⟨a, ys, rfl, hs, fun p hp => ?_⟩
      obtain ⟨f, a, b, c, d, e⟩ := own_of (ys := ys) E1 hp
      exact k p ys _ zs pz upd_same f a b c e (hz.to d)
    rcases e with rfl | rfl
    · cases h1 with
      | cons h2 h3 =>
        cases h3
        obtain ⟨a, ys, rfl, hs, ha⟩ := dp_list h2
        exact key a ys ha (.inl ((hides_le _ _).seq hs))
    · cases h1 with
      | cons h2 h3 =>
        cases h3
        obtain ⟨a, ys, rfl, hs, ha⟩ := dp_tuple h2
        exact key a ys ha (.inr (same_seqT (hides_le _ _) hs))
theorem EnvOk.unhide {q : Addr} (E : EnvOk K C B p0 (q :: ps) H σ ms) (n : q ∉ p0) (ho : ∀ (j : Nat) (m : Slot), ms[j]? = some m → m.mut = true → σ[j]? ≠ some (some (V.ref q))) : EnvOk K C B p0 ps H σ ms := by
  have sb : Same (hides (q :: ps) H) (hides ps H) := hides_sub H fun a m => List.mem_cons_of_mem _ m
  refine ⟨E.keep, E.base.trans sb, fun p hp => ?_, fun p hp => E.lst p (List.mem_cons_of_mem _ hp), fun j m hj => ?_, E.dis, E.len⟩
  · rcases List.mem_cons.mp (E.sub p hp) with e | e
    · exact absurd (e ▸ hp) n
    · exact e
  · have w := E.slots j m hj
    have inps : ∀ p, σ[j]? = some (some (V.ref p)) → p ∈ q :: ps → m.mut = true → p ∈ ps := fun p hp hm z => by
      rcases List.mem_cons.mp hm with e | e
      · subst e; exact absurd hp (ho j m hj z)
      · exact e
    cases m with
    | no => trivial
    | d x => obtain ⟨v, a, b⟩ := w; exact ⟨v, a, b.to sb⟩
    | own xs => obtain ⟨p, vs, a, b, c, d, f⟩ := w; exact ⟨p, vs, a, inps p a b rfl, c, d, f.to sb⟩
    | box b => obtain ⟨a, c, d, sl, xs, i', c', s, n, h1, h2, r⟩ := w; exact ⟨a, inps b a c rfl, d, sl, xs, i', c', s, n, h1, sb.seq h2, r⟩
/-- what is one's own may be told as a datum at once -/
theorem EvN.ev {PL : List PyData → Prop} (h : EvN K te ms PL) (w : ∀ ds, PL ds → P (.list ds)) : Ev K te ms P := fun C B p0 ps σ H E Q k =>
  h C B p0 ps σ H E Q fun q ys H' ds p hq nq q0 hC E1 ho hd => by
    have sb : Same (hides (q :: ps) H') (hides ps H') := hides_sub H' fun a m => List.mem_cons_of_mem _ m
    exact k _ H' _ (w ds p) (E1.unhide q0 ho) (.lst (.inl (.inl (by rw [hides_out nq]; exact hq))) (hd.to sb))
/-! ### tests -/
theorem et_test {PB : Bool → Prop} (h : Ev K te ms P) (w : ∀ d, P d → ∃ b, d = .bool b ∧ PB b) : EvT K (tTest te) ms PB := fun C B p0 ps σ H E Q k =>
  h.run E fun v H1 d p E1 s1 hd => by
    obtain ⟨b, rfl, pb⟩ := w d p
    exact ⟨b, dp_bool hd, k b H1 pb E1⟩
theorem et_B {PB : Bool → Prop} (h : Ev K te ms P) (w : ∀ d, P d → ∃ b, d = .bool b ∧ PB b) : EvT K (tB te) ms PB := fun C B p0 ps σ H E Q k =>
  h.run E fun v H1 d p E1 s1 hd => by
    obtain ⟨b, rfl, pb⟩ := w d p
    exact ⟨b, dp_bool hd, k b H1 pb E1⟩
theorem et_and {PA PB PC : Bool → Prop} (h1 : EvT K t ms PA) (h2 : PA true → EvT K u ms PB) (w1 : PA false → PC false) (w2 : PA true → ∀ b, PB b → PC b) : EvT K (tAnd t u) ms PC := fun C B p0 ps σ H E Q k =>
  h1.run E fun b H1 p E1 s1 => by
    cases b with
    | true => exact (h2 p).run E1 fun b H2 pb E2 s2 => k b H2 (w2 p b pb) E2
    | false => exact k false H1 (w1 p) E1
theorem et_or {PA PB PC : Bool → Prop} (h1 : EvT K t ms PA) (h2 : PA false → EvT K u ms PB) (w1 : PA true → PC true) (w2 : PA false → ∀ b, PB b → PC b) : EvT K (tOr t u) ms PC := fun C B p0 ps σ H E Q k =>
  h1.run E fun b H1 p E1 s1 => by
    cases b with
    | true => exact k true H1 (w1 p) E1
    | false => exact (h2 p).run E1 fun b H2 pb E2 s2 => k b H2 (w2 p b pb) E2
theorem et_not {PA PB : Bool → Prop} (h : EvT K t ms PA) (w : ∀ b, PA b → PB (!b)) : EvT K (tNot t) ms PB := fun C B p0 ps σ H E Q k =>
  h.run E fun b H1 p E1 s1 => k (!b) H1 (w b p) E1
theorem ev_if {PB : Bool → Prop} (h : EvT K t ms PB) (h1 : PB true → Ev K ta ms P) (h2 : PB false → Ev K tb ms P) : Ev K (tIf t ta tb) ms P := fun C B p0 ps σ H E Q k =>
  h.run E fun b H1 p E1 s1 => by
    cases b with
    | true => exact (h1 p).run E1 fun v H2 d p2 E2 s2 hd => k v H2 d p2 E2 hd
    | false => exact (h2 p).run E1 fun v H2 d p2 E2 s2 hd => k v H2 d p2 E2 hd
theorem ev_andV {PA PB PC : Bool → Prop} (h1 : Ev K ta ms P1) (a1 : ∀ d, P1 d → ∃ b, d = .bool b ∧ PA b) (h2 : PA true → Ev K tb ms P) (w1 : PA false → P (.bool false)) : Ev K (tAndV ta tb) ms P := fun C B p0 ps σ H E Q k =>
  h1.run E fun v H1 d p E1 s1 hd => by
    obtain ⟨b, rfl, pb⟩ := a1 d p
    refine ⟨b, dp_bool hd, ?_⟩
    cases b with
    | true => exact (h2 pb).run E1 fun v H2 d p2 E2 s2 hd => k v H2 d p2 E2 hd
    | false => exact k _ H1 _ (w1 pb) E1 (.bl _)
/-- 0 <= i < n -/
theorem ev_chainLL {tc : TE} {P3 : PyData → Prop} (ha : Ev K ta ms P1) (hb : Ev K tb ms P2) (hc : Ev K tc ms P3)
    (w : ∀ d1 d2 d3, P1 d1 → P2 d2 → P3 d3 → ∃ i j k, d1 = .int i ∧ d2 = .int j ∧ d3 = .int k ∧ P (.bool (decide (i ≤ j) && decide (j < k)))) (w3 : ∃ d3, P3 d3) :
    Ev K (tChain (rI0 fun i j => .bl (decide (i ≤ j))) (rI0 fun i j => .bl (decide (i < j))) ta tb tc) ms P := fun C B p0 ps σ H E Q k =>
  ha.run E fun x H1 d1 p1 E1 s1 h1 => hb.run E1 fun y H2 d2 p2 E2 s2 h2 => by
    obtain ⟨d30, p30⟩ := w3
    obtain ⟨i, j, k0, rfl, rfl, _, _⟩ := w d1 d2 d30 p1 p2 p30
    refine ⟨i, j, dp_int h1, dp_int h2, _, rfl, ?_⟩
    by_cases hij : i ≤ j
    · rw [decide_eq_true hij]
      refine iteT (hc.run E2 fun z H3 d3 p3 E3 s3 h3 => ?_)
      obtain ⟨i', j', k', e1, e2, rfl, pp⟩ := w _ _ d3 p1 p2 p3
      injection e1 with e1
      injection e2 with e2
      subst e1 e2
      refine ⟨_, _, dp_int h2, dp_int h3, ?_⟩
      rw [decide_eq_true hij, Bool.true_and] at pp
      exact k _ H3 _ pp E3 (.bl _)
    · obtain ⟨i', j', k', e1, e2, _, pp⟩ := w _ _ d30 p1 p2 p30
      injection e1 with e1
      injection e2 with e2
      subst e1 e2
      rw [decide_eq_false hij] at pp ⊢
      rw [Bool.false_and] at pp
      exact iteF (k _ H2 _ pp E2 (.bl _))
/-! ### what a def promises -/
/-- a def that changes nothing it is given -/
def SpP (K : PySem.W.Frag) (Pre : List PyData → Prop) (R : List PyData → PyData → Prop) : Sp := fun vs H Q _ => ∃ (ps : List Addr) (ds : List PyData),
  (∀ p ∈ ps, ∃ xs, H p = some (.lst xs)) ∧ DpAll K (hides ps H) vs ds ∧ Pre ds ∧ ∀ v H' r, R ds r → Same H H' → Dp K (hides ps H') v r → Q v H'
/-- a def whose first argument is the box -/
def SpB (K : PySem.W.Frag) (Pre : List PyData → Prop) (R : List PyData → PyData → Prop) : Sp := fun vs H Q _ => ∃ (b : Addr) (ws : List V) (ps : List Addr) (ds : List PyData),
  vs = .ref b :: ws ∧ b ∈ ps ∧ (∀ p ∈ ps, ∃ xs, H p = some (.lst xs)) ∧ BoxAt K ps H b ∧ DpAll K (hides ps H) ws ds ∧ Pre ds ∧
  ∀ v H' r, R ds r → Same (hides [b] H) (hides [b] H') → BoxAt K ps H' b → Dp K (hides ps H') v r → Q v H'
theorem ev_call {Pre : List PyData → Prop} {R : List PyData → PyData → Prop} (ha : EvA K al ms PS) (w : ∀ ds, PS ds → Pre ds ∧ ∀ r, R ds r → P r) : Ev K (tCall (SpP K Pre R) [] E0 al) ms P := fun C B p0 ps σ H E Q k =>
  ha.run E fun vs H1 ds p E1 s1 h1 => by
    show SpP K Pre R (vs ++ []) H1 Q E0
    rw [List.append_nil]
    obtain ⟨a, b⟩ := w ds p
    exact ⟨ps, ds, E1.lst, h1, a, fun v H' r hr s hv => k v H' r (b r hr) (E1.to s) hv⟩
theorem ev_callD {Pre : List PyData → Prop} {R : List PyData → PyData → Prop} {dvs : List V} {dds : List PyData} (hd : ∀ H, DpAll K H dvs dds) (ha : EvA K al ms PS) (w : ∀ ds, PS ds → Pre (ds ++ dds) ∧ ∀ r, R (ds ++ dds) r → P r) : Ev K (tCall (SpP K Pre R) dvs E0 al) ms P := fun C B p0 ps σ H E Q k =>
  ha.run E fun vs H1 ds p E1 s1 h1 => by
    obtain ⟨a, b⟩ := w ds p
    exact ⟨ps, ds ++ dds, E1.lst, dp_app h1 (hd _), a, fun v H' r hr s hv => k v H' r (b r hr) (E1.to s) hv⟩
theorem ev_callB {Pre : List PyData → Prop} {R : List PyData → PyData → Prop} {i : Nat} {b : Addr} (hi : ms[i]? = some (.box b)) (ha : EvA K al ms PS) (w : ∀ ds, PS ds → Pre ds ∧ ∀ r, R ds r → P r) : Ev K (tCall (SpB K Pre R) [] E0 (tCons (tVar i) al)) ms P := fun C B p0 ps σ H E Q k => by
  obtain ⟨a, c, d, f⟩ := E.slots i _ hi
  refine ⟨.ref b, a, ha.run E fun vs H1 ds p E1 s1 h1 => ?_⟩
  show SpB K Pre R ((.ref b :: vs) ++ []) H1 Q E0
  rw [List.append_nil]
  obtain ⟨a', c', d', f'⟩ := E1.slots i _ hi
  obtain ⟨x, y⟩ := w ds p
  refine ⟨b, vs, ps, ds, rfl, c, E1.lst, f', h1, x, fun v H' r hr s bx hv => ?_⟩
  exact k v H' r (y r hr) (E1.boxed hi s bx).1 hv
end
end Ct
namespace Ct
open PySem PySem.Spec PyProof.Rows L2

/-- a statement: what it leads to (N), what it hands back (R) -/
def Go (K : PySem.W.Frag) (ts : TS) (ms : List Slot) (N : List Slot → Prop) (R : List Slot → PyData → Prop) : Prop :=
  ∀ (C B : Hp) (p0 ps : List Addr) (σ : L2.St) (H : Hp), EnvOk K C B p0 ps H σ ms → ∀ D : Ends,
    (∀ ms' ps' σ' H', N ms' → EnvOk K C B p0 ps' H' σ' ms' → D.nx σ' H') →
    (∀ v ms' ps' σ' H' r, R ms' r → EnvOk K C B p0 ps' H' σ' ms' → Dp K (hides p0 H') v r → D.rt v H') → ts D σ H
/-- a target takes a datum -/
def Tg (K : PySem.W.Frag) (g : TG) (d : PyData) (ms ms' : List Slot) : Prop :=
  ∀ (C B : Hp) (p0 ps : List Addr) (σ : L2.St) (H : Hp) (v : V), EnvOk K C B p0 ps H σ ms → Dp K (hides ps H) v d → ∀ Q : L2.St → Hp → Prop, (∀ σ', EnvOk K C B p0 ps H σ' ms' → Q σ' H) → g v σ H Q
section
variable {K : PySem.W.Frag} {ms ms' : List Slot} {ta tb te : TE} {al ar : TA} {t u : TT} {ts tu tw : TS} {g : TG} {P P1 P2 : PyData → Prop} {PS : List PyData → Prop} {N N1 : List Slot → Prop} {R : List Slot → PyData → Prop}
theorem tg_name {j : Nat} {d : PyData} : Tg K (gName j) d ms (ms.set j (.d d)) := fun C B p0 ps σ H v E h Q k => k _ (E.put j h)
theorem pair_of {H : Hp} {xs : List V} {d1 d2 : PyData} (h : DpAll K H xs [d1, d2]) : ∃ v1 v2, xs = [v1, v2] ∧ Dp K H v1 d1 ∧ Dp K H v2 d2 := by
  cases h with
  | cons a b =>
    cases b with
    | cons c d =>
      cases d
      exact ⟨_, _, rfl, a, c⟩
theorem tg_tup2 {i j : Nat} {d1 d2 : PyData} : Tg K (gTup K 2 (gCons (gName i) (gCons (gName j) gNil))) (.tuple [d1, d2]) ms ((ms.set i (.d d1)).set j (.d d2)) := fun C B p0 ps σ H v E h Q k => by
  obtain ⟨a, xs, rfl, hs, ha⟩ := dp_tuple h
  obtain ⟨v1, v2, rfl, h1, h2⟩ := pair_of ha
  exact ⟨a, _, rfl, same_seqT (hides_le _ _) hs, rfl, v1, [v2], rfl, v2, [], rfl, rfl, k _ ((E.put i h1).put j h2)⟩
theorem tg_tup3 {i j l : Nat} {d1 d2 d3 : PyData} : Tg K (gTup K 3 (gCons (gName i) (gCons (gName j) (gCons (gName l) gNil)))) (.tuple [d1, d2, d3]) ms (((ms.set i (.d d1)).set j (.d d2)).set l (.d d3)) := fun C B p0 ps σ H v E h Q k => by
  obtain ⟨a, xs, rfl, hs, ha⟩ := dp_tuple h
  cases ha with
  | cons h1 ha =>
    obtain ⟨v2, v3, rfl, h2, h3⟩ := pair_of ha
    exact ⟨a, _, rfl, same_seqT (hides_le _ _) hs, rfl, _, _, rfl, v2, _, rfl, v3, [], rfl, rfl, k _ (((E.put i h1).put j h2).put l h3)⟩
theorem tg_lst2 {i j : Nat} {d1 d2 : PyData} : Tg K (gLst K 2 (gCons (gName i) (gCons (gName j) gNil))) (.list [d1, d2]) ms ((ms.set i (.d d1)).set j (.d d2)) := fun C B p0 ps σ H v E h Q k => by
  obtain ⟨a, xs, rfl, hs, ha⟩ := dp_list h
  obtain ⟨v1, v2, rfl, h1, h2⟩ := pair_of ha
  exact ⟨a, _, rfl, (hides_le _ _).seq hs, rfl, v1, [v2], rfl, v2, [], rfl, rfl, k _ ((E.put i h1).put j h2)⟩
theorem Go.weak {N' : List Slot → Prop} {R' : List Slot → PyData → Prop} (h : Go K ts ms N R) (w1 : ∀ m, N m → N' m) (w2 : ∀ m r, R m r → R' m r) : Go K ts ms N' R' := fun C B p0 ps σ H E D k1 k2 =>
  h C B p0 ps σ H E D (fun ms' ps' σ' H' n => k1 ms' ps' σ' H' (w1 _ n)) fun v ms' ps' σ' H' r q => k2 v ms' ps' σ' H' r (w2 _ _ q)
theorem go_seq (h1 : Go K ts ms N1 R) (h2 : ∀ m, N1 m → Go K tu m N R) : Go K (tSeq ts tu) ms N R := fun C B p0 ps σ H E D k1 k2 =>
  h1 C B p0 ps σ H E { D with nx := tu D } (fun m' ps' σ' H' n E' => h2 m' n C B p0 ps' σ' H' E' D k1 k2) k2
theorem go_next (n : N ms) : Go K tNext ms N R := fun C B p0 ps σ H E D k1 k2 => k1 ms ps σ H n E
theorem see0 {C B : Hp} {p0 ps : List Addr} {σ : L2.St} {H : Hp} (E : EnvOk K C B p0 ps H σ ms) : Same (hides ps H) (hides p0 H) := hides_sub H E.sub
theorem go_ret (h : Ev K te ms P) (w : ∀ d, P d → R ms d) : Go K (tRet te) ms N R := fun C B p0 ps σ H E D k1 k2 =>
  h.run E fun v H' d p E' s hd => k2 v ms ps σ H' d (w d p) E' (hd.to (see0 E'))
theorem go_retO {i : Nat} {ds : List PyData} (hi : ms[i]? = some (.own ds)) (w : R ms (.list ds)) : Go K (tRet (tVar i)) ms N R := fun C B p0 ps σ H E D k1 k2 => by
  obtain ⟨p, vs, a, b, c, d, f⟩ := E.slots i _ hi
  exact ⟨.ref p, a, k2 _ ms ps σ H _ w E (.lst (.inl (.inl (by rw [hides_out c.2]; exact d))) (f.to (see0 E)))⟩
theorem go_set {i : Nat} (h : Ev K te ms P) (w : ∀ d, P d → N (ms.set i (.d d))) : Go K (tAsg te (gName i)) ms N R := fun C B p0 ps σ H E D k1 k2 =>
  h.run E fun v H' d p E' s hd => k1 _ ps _ H' (w d p) (E'.put i hd)
theorem go_setO {i : Nat} {PL : List PyData → Prop} (h : EvN K te ms PL) (w : ∀ ds, PL ds → N (ms.set i (.own ds))) : Go K (tAsg te (gName i)) ms N R := fun C B p0 ps σ H E D k1 k2 =>
  h C B p0 ps σ H E _ fun q ys H' ds p hq nq q0 hC E1 ho hd => k1 _ _ _ H' (w ds p) (E1.own i List.mem_cons_self q0 hC hq hd ho)
theorem go_asg (h : Ev K te ms P) (w : ∀ d, P d → ∃ ms', Tg K g d ms ms' ∧ N ms') : Go K (tAsg te g) ms N R := fun C B p0 ps σ H E D k1 k2 =>
  h.run E fun v H' d p E' s hd => by
    obtain ⟨m', tg, n⟩ := w d p
    exact tg C B p0 ps σ H' v E' hd _ fun σ' E2 => k1 m' ps σ' H' n E2
theorem go_par {i j : Nat} (h : EvA K al ms PS) (w : ∀ ds, PS ds → ∃ a b, ds = [a, b] ∧ N ((ms.set i (.d a)).set j (.d b))) : Go K (tPar i j al) ms N R := fun C B p0 ps σ H E D k1 k2 =>
  h.run E fun vs H' ds p E' s hd => by
    obtain ⟨a, b, rfl, n⟩ := w ds p
    obtain ⟨v1, v2, rfl, h1, h2⟩ := pair_of hd
    exact ⟨v1, v2, rfl, k1 _ ps _ H' n ((E'.put i h1).put j h2)⟩
theorem go_drop (h : Ev K te ms P) (w : ∀ d, P d → N ms) : Go K (tDrop te) ms N R := fun C B p0 ps σ H E D k1 k2 =>
  h.run E fun v H' d p E' s hd => k1 ms ps σ H' (w d p) E'
theorem go_if {PB : Bool → Prop} (h : EvT K t ms PB) (h1 : PB true → Go K ts ms N R) (h2 : PB false → Go K tu ms N R) : Go K (tIfS t ts tu) ms N R := fun C B p0 ps σ H E D k1 k2 =>
  h.run E fun b H' p E' s => by
    cases b with
    | true => exact iteT (h1 p C B p0 ps σ H' E' D k1 k2)
    | false => exact iteF (h2 p C B p0 ps σ H' E' D k1 k2)
/-- a list of one's own is given up -/
theorem go_free {i : Nat} {ds : List PyData} (hi : ms[i]? = some (.own ds)) (h : Go K ts (ms.set i (.d (.list ds))) N R) : Go K ts ms N R := fun C B p0 ps σ H E D k1 k2 => by
  obtain ⟨qs, E'⟩ := E.free hi
  exact h C B p0 qs σ H E' D k1 k2
/-- xs.append(e) -/
theorem go_app {i : Nat} {ds : List PyData} (hi : ms[i]? = some (.own ds)) (hz : ds.length < 1000) (h : Ev K te ms P) (w : ∀ d, P d → N (ms.set i (.own (ds ++ [d])))) :
    Go K (tDrop (tBM K "list" rAppend (tVar i) (tCons te tNil))) ms N R := fun C B p0 ps σ H E D k1 k2 => by
  obtain ⟨p, vs, a, b, c, d, f⟩ := E.slots i _ hi
  refine ⟨.ref p, a, .inl ⟨rfl, vs, .inl (.inl d)⟩, h.run E fun v H' dd pd E' s hd => ?_⟩
  obtain ⟨p', vs', a', b', c', d', f'⟩ := E'.slots i _ hi
  rw [a] at a'; cases a'
  exact ⟨p, vs', v, rfl, rfl, d', small1000 (by rw [dp_len f']; omega), k1 _ ps σ _ (w dd pd) (E'.write hi a (dp_app f' (.cons hd .nil)))⟩
/-- x = xs.pop() -/
theorem go_pop {i j : Nat} {ds : List PyData} {d : PyData} (hi : ms[i]? = some (.own (ds ++ [d]))) (w : N ((ms.set i (.own ds)).set j (.d d))) : Go K (tAsg (tBM0 K "list" rPop (tVar i)) (gName j)) ms N R := fun C B p0 ps σ H E D k1 k2 => by
  obtain ⟨p, vs, a, b, c, e, f⟩ := E.slots i _ hi
  refine ⟨.ref p, a, .inl ⟨rfl, vs, .inl (.inl e)⟩, p, vs, ?_⟩
  obtain ⟨v, hv, hd⟩ := dp_get (i := ds.length) (d := d) f (by simp)
  have hl : vs.length - 1 = ds.length := by rw [dp_len f]; simp
  have hdl : DpAll K (hides ps H) vs.dropLast ds := by
    have q := dp_dropLast f
    rwa [List.dropLast_concat] at q
  have E2 := E.write hi a hdl
  refine ⟨v, rfl, rfl, e, by rw [hl]; exact hv, k1 _ ps _ _ w (E2.put j ?_)⟩
  rw [hides_upd b]
  exact hd
/-- xs[k] = e -/
theorem go_setI {i : Nat} {ti : TE} {ds : List PyData} (hi : ms[i]? = some (.own ds)) (h : Ev K te ms P) (h2 : Ev K ti ms P2) (w : ∀ d x, P d → P2 x → ∃ n k, x = .int n ∧ ixN ds.length n = some k ∧ N (ms.set i (.own (ds.set k d)))) :
    Go K (tAsg te (gSub (tVar i) ti rSetL)) ms N R := fun C B p0 ps σ H E D k1 k2 =>
  h.run E fun v H1 d pd E1 s1 hd => by
    obtain ⟨p, vs, a, b, c, e, f⟩ := E1.slots i _ hi
    refine ⟨.ref p, a, h2.run E1 fun x H2 dx px E2 s2 hx => ?_⟩
    obtain ⟨p', vs', a', b', c', e', f'⟩ := E2.slots i _ hi
    rw [a] at a'; cases a'
    obtain ⟨n, k, rfl, ek, nn⟩ := w d dx pd px
    exact ⟨p, vs', n, k, rfl, dp_int hx, e', by rw [dp_len f']; exact ek, k1 _ ps σ _ nn (E2.write hi a (dp_set k f' (hd.to s2)))⟩
/-- xs.insert(0, e) -/
theorem go_ins0 {i : Nat} {ds : List PyData} (hi : ms[i]? = some (.own ds)) (hz : ds.length < 1000) (h : Ev K te ms P) (w : ∀ d, P d → N (ms.set i (.own (d :: ds)))) :
    Go K (tDrop (tBM K "list" (fun x vs H Q => ∃ (l : Addr) (xs : List V) (i : Int) (y : V), x = .ref l ∧ vs = [.int i, y] ∧ H l = some (.lst xs) ∧ xs.length < sizeLine ∧ 0 ≤ i ∧ i < 2 ^ 63 ∧
      Q .non (upd H l (.lst (xs.take i.toNat ++ [y] ++ xs.drop i.toNat)))) (tVar i) (tCons (tC (.int 0)) (tCons te tNil)))) ms N R := fun C B p0 ps σ H E D k1 k2 => by
  obtain ⟨p, vs, a, b, c, d, f⟩ := E.slots i _ hi
  refine ⟨.ref p, a, .inl ⟨rfl, vs, .inl (.inl d)⟩, h.run E fun v H' dd pd E' s hd => ?_⟩
  obtain ⟨p', vs', a', b', c', d', f'⟩ := E'.slots i _ hi
  rw [a] at a'; cases a'
  exact ⟨p, vs', 0, v, rfl, rfl, d', small1000 (by rw [dp_len f']; omega), Int.le_refl _, by decide, k1 _ ps σ _ (w dd pd) (E'.write hi a (.cons hd f'))⟩
/-- xs[::-1], xs one's own -/
theorem ev_revO {i : Nat} {ds : List PyData} (hi : ms[i]? = some (.own ds)) (w : P (.list ds.reverse)) : Ev K (tRevL K (tVar i)) ms P := fun C B p0 ps σ H E Q k => by
  obtain ⟨p, vs, a, b, c, d, f⟩ := E.slots i _ hi
  refine ⟨.ref p, a, p, vs, rfl, .inl (.inl d), fun q hq => ?_⟩
  have s : Same H (upd H q (.lst vs.reverse)) := same_new hq
  have np : q ∉ ps := fun m => by obtain ⟨ys, z⟩ := E.lst q m; rw [hq] at z; cases z
  exact k _ _ _ w (E.to s) (.lst (.inl (.inl (by rw [hides_out np]; exact upd_same))) ((dp_rev f).to (hides_mono ps s)))
/-! ### loops -/
theorem go_while (I : Nat → List Slot → Prop) (m0 : Nat) (h0 : I m0 ms)
    (hs : ∀ m ms1, I m ms1 → ∃ PB : Bool → Prop, EvT K t ms1 PB ∧ (PB true → Go K ts ms1 (fun ms2 => ∃ m', m' < m ∧ I m' ms2) R) ∧ (PB false → N ms1)) : Go K (tWhile t ts) ms N R := fun C B p0 ps σ H E D k1 k2 => by
  refine ⟨fun m σ H => ∃ ms1 ps, I m ms1 ∧ EnvOk K C B p0 ps H σ ms1, ⟨m0, ms, ps, h0, E⟩, ?_⟩
  rintro m σ1 H1 ⟨ms1, ps1, hI, E1⟩
  obtain ⟨PB, ht, hy, hn⟩ := hs m ms1 hI
  refine ht.run E1 fun b H2 pb E2 s2 => ?_
  cases b with
  | true =>
    refine iteT ⟨fun σ' H' => ∃ m', m' < m ∧ ∃ ms1 ps, I m' ms1 ∧ EnvOk K C B p0 ps H' σ' ms1, fun σ' H' z => z, ?_⟩
    exact hy pb C B p0 ps1 σ1 H2 E2 _ (fun ms' ps' σ' H' ⟨m', l, i⟩ E' => ⟨m', l, ms', ps', i, E'⟩) k2
  | false => exact iteF (k1 ms1 ps1 σ1 H2 (hn pb) E2)
theorem go_forR1 {al : TA} {n : Int} {j : Nat} (h : EvA K al ms (· = [.int n])) (hn : n < 2 ^ 62) (h0 : 0 ≤ n) (I : Nat → List Slot → Prop) (i0 : I 0 ms)
    (hs : ∀ (i : Nat) ms1, i < n.toNat → I i ms1 → Go K ts (ms1.set j (.d (.int (i : Int)))) (I (i + 1)) R) (hd : ∀ ms1, I n.toNat ms1 → N ms1) : Go K (tFor (iRng1 al) (gName j) ts) ms N R := fun C B p0 ps σ H E D k1 k2 =>
  h.run E fun vs H1 ds p E1 s1 hds => by
    subst p
    cases hds with
    | cons ha hb =>
      cases hb
      refine ⟨n, by rw [dp_int ha], by omega, hn, ?_⟩
      refine for_range (D := D) (fun i σ H => ∃ ms1 ps, I i ms1 ∧ EnvOk K C B p0 ps H σ ms1) ⟨ms, ps, i0, E1⟩ ?_ ?_
      · rintro i σ1 H2 hi ⟨ms1, ps1, hI, E2⟩
        have e0 : (0 : Int) + (i : Int) = (i : Int) := Int.zero_add _
        rw [e0]
        exact hs i ms1 hi hI C B p0 ps1 _ H2 (E2.put j (.int _)) _ (fun ms' ps' σ' H' z E' => ⟨ms', ps', z, E'⟩) k2
      · rintro σ1 H2 ⟨ms1, ps1, hI, E2⟩
        exact k1 ms1 ps1 σ1 H2 (hd ms1 hI) E2
theorem go_forL {tl : TE} {P : PyData → Prop} (h : Ev K tl ms P) (hw : ∀ d, P d → ∃ (ds : List PyData) (I : Nat → List Slot → Prop), d = .list ds ∧ I 0 ms ∧
    (∀ (i : Nat) x ms1, ds[i]? = some x → I i ms1 → ∃ ms2, Tg K g x ms1 ms2 ∧ Go K ts ms2 (I (i + 1)) R) ∧ ∀ ms1, I ds.length ms1 → N ms1) : Go K (tFor (iList K tl) g ts) ms N R := fun C B p0 ps σ H E D k1 k2 =>
  h.run E fun v H1 d p E1 s1 hd => by
    obtain ⟨ds, I, rfl, i0, hs, he⟩ := hw d p
    obtain ⟨a, xs, rfl, hx, hxs⟩ := dp_list hd
    have E1' := E1.self
    refine ⟨a, rfl, ⟨xs, (hides_le _ _).seq hx⟩, ?_⟩
    refine for_list (D := D) (K := K) (a := a) (xs := xs) (fun i σ H => ∃ ms1 ps', I i ms1 ∧ EnvOk K C (hides ps H1) p0 ps' H σ ms1) ⟨ms, ps, i0, E1'⟩ ?_ ?_ ?_
    · rintro i σ1 H2 _ ⟨ms1, ps', hI, E2⟩
      exact (hides_le _ _).seq (E2.base.seq hx)
    · rintro i x σ1 H2 hi ⟨ms1, ps', hI, E2⟩
      have hl : i < ds.length := by
        rw [← dp_len hxs]
        exact (List.getElem?_eq_some_iff.mp hi).1
      obtain ⟨v, hv, hdv⟩ := dp_get hxs (List.getElem?_eq_getElem hl)
      rw [hi] at hv; cases hv
      obtain ⟨ms2, tg, go⟩ := hs i _ ms1 (List.getElem?_eq_getElem hl) hI
      refine tg C (hides ps H1) p0 ps' σ1 H2 x E2 (hdv.to E2.base) _ fun σ2 E3 => ?_
      exact go C (hides ps H1) p0 ps' σ2 H2 E3 _ (fun ms' ps' σ' H' z E' => ⟨ms', ps', z, E'⟩) fun v ms' ps' σ' H' r q E' => k2 v ms' ps' σ' H' r q (E'.back E1.base)
    · rintro σ1 H2 ⟨ms1, ps', hI, E2⟩
      rw [dp_len hxs] at hI
      exact k1 ms1 ps' σ1 H2 (he ms1 hI) (E2.back E1.base)
theorem go_forE {al : TA} {PS : List PyData → Prop} (h : EvA K al ms PS) (hw : ∀ d, PS d → ∃ (ds : List PyData) (I : Nat → List Slot → Prop), d = [.list ds] ∧ I 0 ms ∧
    (∀ (i : Nat) x ms1, ds[i]? = some x → I i ms1 → ∃ ms2, Tg K g (.tuple [.int (i : Int), x]) ms1 ms2 ∧ Go K ts ms2 (I (i + 1)) R) ∧ ∀ ms1, I ds.length ms1 → N ms1) : Go K (tFor (iEnum K al) g ts) ms N R := fun C B p0 ps σ H E D k1 k2 =>
  h.run E fun vs H1 d p E1 s1 hd => by
    obtain ⟨ds, I, rfl, i0, hs, he⟩ := hw d p
    cases hd with
    | cons hd hn =>
      cases hn
      obtain ⟨a, xs, rfl, hx, hxs⟩ := dp_list hd
      have E1' := E1.self
      refine ⟨a, xs, rfl, (hides_le _ _).seq hx, ?_⟩
      refine ⟨fun i m σ H => m = xs.length - i ∧ i ≤ xs.length ∧ ∃ ms1 ps', I i ms1 ∧ EnvOk K C (hides ps H1) p0 ps' H σ ms1, ⟨xs.length, by simp, Nat.zero_le _, ms, ps, i0, E1'⟩, ?_⟩
      rintro i m σ1 H2 ⟨rfl, hi, ms1, ps', hI, E2⟩
      have hS : SqL K H2 a xs := (hides_le _ _).seq (E2.base.seq hx)
      by_cases hlt : i < xs.length
      · refine .inr ⟨⟨xs, xs[i], hS, by simp [hlt]⟩, fun σ' H' => ∃ ms1 ps', I (i + 1) ms1 ∧ EnvOk K C (hides ps H1) p0 ps' H' σ' ms1, fun σ' H' z => ⟨xs.length - (i + 1), by omega, rfl, hlt, z⟩, fun x H' y => ?_⟩
        obtain ⟨T, y, rfl, nT, rfl, hy⟩ := y
        have ey := hy xs hS
        have hl : i < ds.length := by rw [← dp_len hxs]; exact hlt
        obtain ⟨v, hv, hdv⟩ := dp_get hxs (List.getElem?_eq_getElem hl)
        rw [ey] at hv; cases hv
        obtain ⟨ms2, tg, go⟩ := hs i _ ms1 (List.getElem?_eq_getElem hl) hI
        have sT : Same H2 (upd H2 T (.tup [.int (i : Nat), y])) := same_new nT
        have E3 := E2.to sT
        have nps : T ∉ ps' := fun m => by obtain ⟨ys, z⟩ := E2.lst T m; rw [nT] at z; cases z
        refine tg C (hides ps H1) p0 ps' σ1 _ (.ref T) E3 (.tup (.inl (.inl (by rw [hides_out nps]; exact upd_same))) (.cons (.int _) (.cons (hdv.to E3.base) .nil))) _ fun σ2 E4 => ?_
        exact go C (hides ps H1) p0 ps' σ2 _ E4 _ (fun ms' ps' σ' H' z E' => ⟨ms', ps', z, E'⟩) fun v ms' ps' σ' H' r q E' => k2 v ms' ps' σ' H' r q (E'.back E1.base)
      · have e : i = xs.length := by omega
        subst e
        refine .inl ⟨⟨xs, hS, Nat.le_refl _⟩, ?_⟩
        rw [dp_len hxs] at hI
        exact k1 ms1 ps' σ1 H2 (he ms1 hI) (E2.back E1.base)
end
/-! ### comprehensions -/
section
variable {K : PySem.W.Frag} {C B : Hp} {p0 ps : List Addr} {H H' : Hp} {σ σ1 : L2.St} {ms ms1 : List Slot} {te : TE} {al : TA} {g : TG} {D : Addr}
/-- no slot that may change stands at D -/
def NotAt (σ : L2.St) (ms : List Slot) (D : Addr) : Prop := ∀ (j : Nat) (m : Slot), ms[j]? = some m → m.mut = true → σ[j]? ≠ some (some (V.ref D))
theorem NotAt.ne {p : Addr} {j : Nat} {m : Slot} (n : NotAt σ ms D) (hj : ms[j]? = some m) (hm : m.mut = true) (a : σ[j]? = some (some (.ref p))) : p ≠ D := fun z => n j m hj hm (by rw [← z]; exact a)
theorem EnvOk.pin {o : HO} (E : EnvOk K C B p0 ps H σ ms) (h : H D = some o) (n : NotAt σ ms D) : EnvOk K (upd C D o) B p0 ps H σ ms := by
  refine ⟨fun a u e => ?_, E.base, E.sub, E.lst, fun j m hj => ?_, E.dis, E.len⟩
  · by_cases z : a = D
    · rw [z, upd_same] at e; cases e; rw [z]; exact h
    · rw [upd_ne z] at e; exact E.keep a u e
  · have w := E.slots j m hj
    cases m with
    | no => trivial
    | d x => exact w
    | own xs =>
      obtain ⟨p, vs, a, b, c, d, f⟩ := w
      exact ⟨p, vs, a, b, ⟨by rw [upd_ne (NotAt.ne n hj rfl a)]; exact c.1, c.2⟩, d, f⟩
    | box b =>
      obtain ⟨a, c, d, f⟩ := w
      exact ⟨a, c, by rw [upd_ne (NotAt.ne n hj rfl a)]; exact d, f⟩
theorem EnvOk.unpin {o : HO} (E : EnvOk K (upd C D o) B p0 ps H σ ms) (hC : C D = none) : EnvOk K C B p0 ps H σ ms := by
  have sub : Same C (upd C D o) := same_new hC
  have nn : ∀ p, upd C D o p = none → C p = none := fun p e => by
    by_cases z : p = D
    · rw [z, upd_same] at e; cases e
    · rw [upd_ne z] at e; exact e
  refine ⟨sub.trans E.keep, E.base, E.sub, E.lst, fun j m hj => ?_, E.dis, E.len⟩
  have w := E.slots j m hj
  cases m with
  | no => trivial
  | d x => exact w
  | own xs =>
    obtain ⟨p, vs, a, b, c, d, f⟩ := w
    exact ⟨p, vs, a, b, ⟨nn _ c.1, c.2⟩, d, f⟩
  | box b =>
    obtain ⟨a, c, d, f⟩ := w
    exact ⟨a, c, nn _ d, f⟩
theorem EnvOk.touch {ys : List V} (E : EnvOk K C B p0 ps H σ ms) (hD : D ∈ ps) (hC : C D = none) (n : NotAt σ ms D) : EnvOk K C B p0 ps (upd H D (.lst ys)) σ ms := by
  have hu : hides ps (upd H D (.lst ys)) = hides ps H := hides_upd hD
  refine ⟨fun x o e => ?_, by rw [hu]; exact E.base, E.sub, fun x hx => ?_, fun j m hj => ?_, E.dis, E.len⟩
  · rw [upd_ne (ne_of_none e hC)]; exact E.keep x o e
  · by_cases z : x = D
    · subst z; exact ⟨ys, upd_same⟩
    · rw [upd_ne z]; exact E.lst x hx
  · have w := E.slots j m hj
    cases m with
    | no => trivial
    | d x => obtain ⟨v, a, b⟩ := w; exact ⟨v, a, by rw [hu]; exact b⟩
    | own xs =>
      obtain ⟨p, vs, a, b, c, d, f⟩ := w
      exact ⟨p, vs, a, b, c, by rw [upd_ne (NotAt.ne n hj rfl a)]; exact d, by rw [hu]; exact f⟩
    | box b =>
      obtain ⟨a, c, d, sl, xs, i', c', s, n', h1, h2, r⟩ := w
      exact ⟨a, c, d, sl, xs, i', c', s, n', by rw [upd_ne (NotAt.ne n hj rfl a)]; exact h1, by rw [hu]; exact h2, r⟩
/-- the same state seen by fewer slots -/
theorem EnvOk.res (E : EnvOk K C B p0 ps H σ1 ms1) (w : ∀ (i : Nat) (m : Slot), ms[i]? = some m → m = .no ∨ (σ[i]? = σ1[i]? ∧ ms1[i]? = some m)) (hl : σ.length = ms.length) : EnvOk K C B p0 ps H σ ms := by
  refine ⟨E.keep, E.base, E.sub, E.lst, fun i m hi => ?_, fun i j m n hij hi hj a b => ?_, hl⟩
  · rcases w i m hi with rfl | ⟨e1, e2⟩
    · trivial
    · rw [e1]; exact E.slots i m e2
  · rcases w i m hi with rfl | ⟨e1, e2⟩
    · cases a
    · rcases w j n hj with rfl | ⟨e3, e4⟩
      · cases b
      · rw [e1, e3]; exact E.dis i j m n hij e2 e4 a b
/-- what stands in a comprehension's list so far -/
def LcW (K : PySem.W.Frag) (C B : Hp) (p0 ps : List Addr) (σ : L2.St) (ms : List Slot) (D : Addr) (x : Nat → PyData → Prop) (i : Nat) (H : Hp) : Prop :=
  EnvOk K C B p0 (D :: ps) H σ ms ∧ ∃ ys ds, H D = some (.lst ys) ∧ DpAll K (hides (D :: ps) H) ys ds ∧ ds.length = i ∧ ∀ k d, ds[k]? = some d → x k d
theorem lc_turn {x : Nat → PyData → Prop} {i : Nat} (hC : C D = none) (n : NotAt σ ms D) (hw : LcW K C B p0 ps σ ms D x i H) (hz : i < 1000) (E1 : EnvOk K C (hides (D :: ps) H) p0 (D :: ps) H σ1 ms1) (n1 : NotAt σ1 ms1 D) (he : Ev K te ms1 (x i))
    (w : ∀ (j : Nat) (m : Slot), ms[j]? = some m → m = .no ∨ (σ[j]? = σ1[j]? ∧ ms1[j]? = some m)) :
    te σ1 H fun y H4 => ∃ acc, H4 D = some (.lst acc) ∧ acc.length < sizeLine ∧ LcW K C B p0 ps σ ms D x (i + 1) (upd H4 D (.lst (acc ++ [y]))) := by
  obtain ⟨E, ys, ds, hD, hds, hlen, hx⟩ := hw
  have E2 := E1.pin hD n1
  refine he.run E2 fun v H4 d px E4 s4 hd => ?_
  have hD4 : H4 D = some (.lst ys) := E4.keep D _ upd_same
  have E5 : EnvOk K C (hides (D :: ps) H) p0 (D :: ps) H4 σ ms := (E4.unpin hC).res w E.len
  have E6 := (E5.back E.base).touch (ys := ys ++ [v]) List.mem_cons_self hC n
  have hu : hides (D :: ps) (upd H4 D (.lst (ys ++ [v]))) = hides (D :: ps) H4 := hides_upd List.mem_cons_self
  refine ⟨ys, hD4, small1000 (by rw [dp_len hds, hlen]; omega), E6, ys ++ [v], ds ++ [d], upd_same, by rw [hu]; exact dp_app (hds.to s4) (.cons hd .nil), by simp [hlen], fun k e hk => ?_⟩
  by_cases hkl : k < ds.length
  · rw [List.getElem?_append_left hkl] at hk
    exact hx k e hk
  · rw [List.getElem?_append_right (by omega)] at hk
    have hk0 : k - ds.length = 0 := by
      by_cases z : k - ds.length = 0
      · exact z
      · rw [List.getElem?_eq_none (by simp; omega)] at hk; cases hk
    rw [hk0] at hk
    have ed : d = e := by simpa using hk
    have ek : k = i := by omega
    rw [ek, ← ed]; exact px
theorem wipe1 (σ : L2.St) (j : Nat) (o : Option V) : wipe ((wipe σ [j]).set j o) [j] = wipe σ [j] := by
  show ((σ.set j none).set j o).set j none = σ.set j none
  rw [List.set_set, List.set_set]
theorem wipe2 (σ : L2.St) (i j : Nat) (a b : Option V) : wipe (((wipe σ [i, j]).set i a).set j b) [i, j] = wipe σ [i, j] := by
  show ((((σ.set j none).set i none).set i a).set j b |>.set j none).set i none = (σ.set j none).set i none
  by_cases h : i = j
  · subst h; simp [List.set_set]
  · apply List.ext_getElem?
    intro k
    simp only [List.getElem?_set, List.length_set]
    split <;> (try split) <;> (try split) <;> simp_all
theorem ms_no {j : Nat} {s : Slot} (hj : ms[j]? = some .no) : ∀ (i : Nat) (m : Slot), ms[i]? = some m → m = .no ∨ (i ≠ j ∧ (ms.set j s)[i]? = some m) := fun i m hi => by
  by_cases z : i = j
  · subst z; rw [hj] at hi; cases hi; exact .inl rfl
  · exact .inr ⟨z, by rw [List.getElem?_set_ne (Ne.symm z)]; exact hi⟩
/-- [te for j in range(n)] -/
theorem ev_lcR {n : Int} {j : Nat} {x : Nat → PyData → Prop} {P : List PyData → Prop} (h : EvA K al ms (· = [.int n])) (h0 : 0 ≤ n) (hn : n ≤ 900) (hj : ms[j]? = some .no) (he : ∀ i : Nat, (i : Int) < n → Ev K te (ms.set j (.d (.int (i : Int)))) (x i))
    (hp : ∀ ds, ds.length = n.toNat → (∀ k d, ds[k]? = some d → x k d) → P ds) : EvN K (tLc (iRng1 al) (gName j) tYes te [j]) ms P := fun C B p0 ps σ H E Q k =>
  h.run E fun vs H1 ds p E1 s1 hds => by
    subst p
    cases hds with
    | cons ha hb =>
      cases hb
      refine ⟨n, by rw [dp_int ha], by omega, by omega, fun D hD => ?_⟩
      obtain ⟨nps, np0, hC, E2, s2, no⟩ := own_of (ys := []) E1 hD
      refine lc_range (LcW K C B p0 ps σ ms D x) ⟨E2, [], [], upd_same, .nil, rfl, fun k d e => by simp at e⟩ ?_ ?_
      · intro i H2 hi hw
        refine ⟨wipe1 _ _ _, iteT (B := LcW K C B p0 ps σ ms D x (i + 1) H2) ?_⟩
        have e0 : (0 : Int) + (i : Int) = (i : Int) := Int.zero_add _
        rw [e0]
        have lj : j < ms.length := (List.getElem?_eq_some_iff.mp hj).1
        have E3 := hw.1.self
        have E4 : EnvOk K C (hides (D :: ps) H2) p0 (D :: ps) H2 ((wipe σ [j]).set j (some (.int (i : Int)))) (ms.set j (.d (.int (i : Int)))) := by
          have q := (E3.drop j (o := none)).put j (v := .int (i : Int)) (.int _)
          rwa [List.set_set (l := ms)] at q
        have n1 : NotAt ((wipe σ [j]).set j (some (.int (i : Int)))) (ms.set j (.d (.int (i : Int)))) D := fun a m ha hm => by
          rcases getSet ha with ⟨rfl, rfl, _⟩ | ⟨ne, ha⟩
          · cases hm
          · rw [List.getElem?_set_ne (Ne.symm ne)]
            show (σ.set j none)[a]? ≠ _
            rw [List.getElem?_set_ne (Ne.symm ne)]
            exact no a m ha hm
        refine lc_turn hC no hw (by omega) E4 n1 (he i (by omega)) fun a m ha => ?_
        rcases ms_no (s := .d (.int (i : Int))) hj a m ha with z | ⟨ne, z⟩
        · exact .inl z
        · refine .inr ⟨?_, z⟩
          rw [List.getElem?_set_ne (Ne.symm ne)]
          show σ[a]? = (σ.set j none)[a]?
          rw [List.getElem?_set_ne (Ne.symm ne)]
      · rintro H2 ⟨E3, ys, ds, q1, q2, q3, q4⟩
        exact k D ys H2 ds (hp ds q3 q4) q1 nps np0 hC E3 no q2
/-- [te for j in a list] -/
theorem ev_lcL {tl : TE} {ds : List PyData} {j : Nat} {x : Nat → PyData → Prop} {P : List PyData → Prop} (h : Ev K tl ms (· = .list ds)) (hn : ds.length ≤ 900) (hj : ms[j]? = some .no) (he : ∀ (i : Nat) d, ds[i]? = some d → Ev K te (ms.set j (.d d)) (x i))
    (hp : ∀ es, es.length = ds.length → (∀ k d, es[k]? = some d → x k d) → P es) : EvN K (tLc (iList K tl) (gName j) tYes te [j]) ms P := fun C B p0 ps σ H E Q k =>
  h.run E fun v H1 d p E1 s1 hd => by
    subst p
    obtain ⟨a, xs, rfl, hx, hxs⟩ := dp_list hd
    refine ⟨a, rfl, ⟨xs, (hides_le _ _).seq hx⟩, fun D hD => ?_⟩
    obtain ⟨nps, np0, hC, E2, s2, no⟩ := own_of (ys := []) E1.self hD
    refine lc_list (K := K) (a := a) (xs := xs) (LcW K C (hides ps H1) p0 ps σ ms D x) ⟨E2, [], [], upd_same, .nil, rfl, fun k d e => by simp at e⟩ ?_ ?_ ?_
    · intro i H2 _ hw
      exact (hides_le _ _).seq (hw.1.base.seq hx)
    · intro i v H2 hi hw
      refine ⟨wipe1 _ _ _, iteT (B := LcW K C (hides ps H1) p0 ps σ ms D x (i + 1) H2) ?_⟩
      have hl : i < ds.length := by
        rw [← dp_len hxs]
        exact (List.getElem?_eq_some_iff.mp hi).1
      obtain ⟨v', hv, hdv⟩ := dp_get hxs (List.getElem?_eq_getElem hl)
      rw [hi] at hv; cases hv
      have E3 := hw.1.self
      have E4 : EnvOk K C (hides (D :: ps) H2) p0 (D :: ps) H2 ((wipe σ [j]).set j (some v)) (ms.set j (.d ds[i])) := by
        have q := (E3.drop j (o := none)).put j (hdv.to hw.1.base)
        rwa [List.set_set (l := ms)] at q
      have n1 : NotAt ((wipe σ [j]).set j (some v)) (ms.set j (.d ds[i])) D := fun a m ha hm => by
        rcases getSet ha with ⟨rfl, rfl, _⟩ | ⟨ne, ha⟩
        · cases hm
        · rw [List.getElem?_set_ne (Ne.symm ne)]
          show (σ.set j none)[a]? ≠ _
          rw [List.getElem?_set_ne (Ne.symm ne)]
          exact no a m ha hm
      refine lc_turn hC no hw (by omega) E4 n1 (he i _ (List.getElem?_eq_getElem hl)) fun a m ha => ?_
      rcases ms_no (s := .d ds[i]) hj a m ha with z | ⟨ne, z⟩
      · exact .inl z
      · refine .inr ⟨?_, z⟩
        rw [List.getElem?_set_ne (Ne.symm ne)]
        show σ[a]? = (σ.set j none)[a]?
        rw [List.getElem?_set_ne (Ne.symm ne)]
    · rintro H2 ⟨E3, ys, es, q1, q2, q3, q4⟩
      exact k D ys H2 es (hp es (by rw [q3, dp_len hxs]) q4) q1 nps np0 hC (E3.back E1.base) no q2
/-- [te for i, j in a list of pairs] -/
theorem ev_lcL2 {tl : TE} {ds : List PyData} {i1 j1 : Nat} {x : Nat → PyData → Prop} {P : List PyData → Prop} (h : Ev K tl ms (· = .list ds)) (hn : ds.length ≤ 900) (hne : i1 ≠ j1) (hi1 : ms[i1]? = some .no) (hj1 : ms[j1]? = some .no)
    (he : ∀ (i : Nat) d, ds[i]? = some d → ∃ d1 d2, d = .tuple [d1, d2] ∧ Ev K te ((ms.set i1 (.d d1)).set j1 (.d d2)) (x i))
    (hp : ∀ es, es.length = ds.length → (∀ k d, es[k]? = some d → x k d) → P es) : EvN K (tLc (iList K tl) (gTup K 2 (gCons (gName i1) (gCons (gName j1) gNil))) tYes te [i1, j1]) ms P := fun C B p0 ps σ H E Q k =>
  h.run E fun v H1 d p E1 s1 hd => by
    subst p
    obtain ⟨a, xs, rfl, hx, hxs⟩ := dp_list hd
    refine ⟨a, rfl, ⟨xs, (hides_le _ _).seq hx⟩, fun D hD => ?_⟩
    obtain ⟨nps, np0, hC, E2, s2, no⟩ := own_of (ys := []) E1.self hD
    refine lc_list (K := K) (a := a) (xs := xs) (LcW K C (hides ps H1) p0 ps σ ms D x) ⟨E2, [], [], upd_same, .nil, rfl, fun k d e => by simp at e⟩ ?_ ?_ ?_
    · intro i H2 _ hw
      exact (hides_le _ _).seq (hw.1.base.seq hx)
    · intro i v H2 hi hw
      have hl : i < ds.length := by
        rw [← dp_len hxs]
        exact (List.getElem?_eq_some_iff.mp hi).1
      obtain ⟨v', hv, hdv⟩ := dp_get hxs (List.getElem?_eq_getElem hl)
      rw [hi] at hv; cases hv
      obtain ⟨d1, d2, ed, hev⟩ := he i _ (List.getElem?_eq_getElem hl)
      rw [ed] at hdv
      obtain ⟨T, zs, rfl, hT, hzs⟩ := dp_tuple hdv
      obtain ⟨v1, v2, rfl, h1, h2⟩ := pair_of hzs
      refine ⟨T, _, rfl, same_seqT (hides_le _ _) (same_seqT hw.1.base hT), rfl, v1, [v2], rfl, v2, [], rfl, rfl, wipe2 _ _ _ _ _, iteT (B := LcW K C (hides ps H1) p0 ps σ ms D x (i + 1) H2) ?_⟩
      have E3 := hw.1.self
      have off : ∀ (a : Nat), a ≠ i1 → a ≠ j1 → (((wipe σ [i1, j1]).set i1 (some v1)).set j1 (some v2))[a]? = σ[a]? := fun a n1 n2 => by
        rw [List.getElem?_set_ne (Ne.symm n2), List.getElem?_set_ne (Ne.symm n1)]
        show ((σ.set j1 none).set i1 none)[a]? = σ[a]?
        rw [List.getElem?_set_ne (Ne.symm n1), List.getElem?_set_ne (Ne.symm n2)]
      have E4 : EnvOk K C (hides (D :: ps) H2) p0 (D :: ps) H2 (((wipe σ [i1, j1]).set i1 (some v1)).set j1 (some v2)) ((ms.set i1 (.d d1)).set j1 (.d d2)) := by
        have q := (((E3.drop j1 (o := none)).drop i1 (o := none)).put i1 (h1.to hw.1.base)).put j1 (h2.to hw.1.base)
        have em : (((ms.set j1 .no).set i1 .no).set i1 (.d d1)).set j1 (.d d2) = (ms.set i1 (.d d1)).set j1 (.d d2) := by
          rw [List.set_set, List.set_comm _ _ hne.symm, List.set_set]
        rw [em] at q
        exact q
      have offm : ∀ (a : Nat), a ≠ i1 → a ≠ j1 → ((ms.set i1 (.d d1)).set j1 (.d d2))[a]? = ms[a]? := fun a n1 n2 => by
        rw [List.getElem?_set_ne (Ne.symm n2), List.getElem?_set_ne (Ne.symm n1)]
      have n1 : NotAt (((wipe σ [i1, j1]).set i1 (some v1)).set j1 (some v2)) ((ms.set i1 (.d d1)).set j1 (.d d2)) D := fun a m ha hm => by
        rcases getSet ha with ⟨rfl, rfl, _⟩ | ⟨ne, ha'⟩
        · cases hm
        · rcases getSet ha' with ⟨rfl, rfl, _⟩ | ⟨ne2, ha2⟩
          · cases hm
          · rw [off a ne2 ne]
            exact no a m ha2 hm
      refine lc_turn hC no hw (by omega) E4 n1 hev fun a m ha => ?_
      by_cases z1 : a = i1
      · subst z1; rw [hi1] at ha; cases ha; exact .inl rfl
      · by_cases z2 : a = j1
        · subst z2; rw [hj1] at ha; cases ha; exact .inl rfl
        · exact .inr ⟨(off a z1 z2).symm, by rw [offm a z1 z2]; exact ha⟩
    · rintro H2 ⟨E3, ys, es, q1, q2, q3, q4⟩
      exact k D ys H2 es (hp es (by rw [q3, dp_len hxs]) q4) q1 nps np0 hC (E3.back E1.base) no q2
end
end Ct
namespace Ct
open PySem PySem.Spec PyProof.Rows L2 He

/-! ### the text -/
def topS (i : Nat) : Stmt := PySem.Challenge.pw_cornertrade_k19_wholes_of_no_row.main.body.getD i (.Pass ⟨0, 0, 0, 0⟩)
/-- the module's name x is the def st -/
def IsDef (K : PySem.W.Frag) (mg : Str → Option Value) (x : Str) (st : Stmt) : Prop :=
  mg x = some (.ref (ga K x)) ∧ ∃ fd, FunD K x x (defArgs st) (defBody st) (defScope st) [] [] (ga K x) fd
/-- the def x is known: how it is called, what it promises -/
def OkD (P : Program) (w : World) (K : PySem.W.Frag) (mg : Str → Option Value) (base : Heap) (x : Str) (k : Nat) (ps : List Str) (dvs : List V) (sp : Sp) : Prop :=
  ∃ (fd : FuncData) (ds : List Value), FnOk P w K mg base CX0 k (ga K x) fd ps sp ∧ Binds K fd ps ds ∧ Vals dvs ds ∧ mg x = some (.ref (ga K x)) ∧ PySem.W.keepIn K (.ref (ga K x)) = true
theorem pe_fn {X : Cx} {x : Str} {k : Nat} {ps : List Str} {dvs : List V} {sp : Sp} {e : Expr} {es : List Expr} {t : TA} {p pos : Pos} (h : OkD X.prog X.w X.K X.mg X.base x k ps dvs sp) (hr : Room k X.A) (ha : PA X (e :: es) t) (hg : Gl X x := by rfl)
    (hdb : (x == ("__debug__" : Str)) = false := by decide) (he : starEach (e :: es) X.env = (false, eval e X.env) :: starEach es X.env := by rfl) (hpl : (backTo pos (starEach es X.env)).any (·.1) = false := by rfl) :
    PE X (.Call (.Name x p) (e :: es) [] pos) (tCall sp dvs E0 t) := by
  obtain ⟨fd, ds, F, b, v, m, kp⟩ := h
  exact pe_call F hr hg m kp b v pass0 ha hdb he hpl
def startM (N : List Str) (ds : List PyData) : List Slot := ds.map Slot.d ++ List.replicate (N.length - ds.length) Slot.no
def startB (N : List Str) (b : Addr) (ds : List PyData) : List Slot := Slot.box b :: (ds.map Slot.d ++ List.replicate (N.length - (ds.length + 1)) Slot.no)
theorem startM_at {N : List Str} {ds : List PyData} {i : Nat} {m : Slot} (h : (startM N ds)[i]? = some m) : (∃ d, ds[i]? = some d ∧ m = .d d) ∨ m = .no := by
  unfold startM at h
  by_cases hi : i < ds.length
  · rw [List.getElem?_append_left (by simpa using hi), List.getElem?_map, List.getElem?_eq_getElem hi] at h
    exact .inl ⟨_, List.getElem?_eq_getElem hi, (Option.some.inj h).symm⟩
  · rw [List.getElem?_append_right (by simpa using hi), List.getElem?_replicate] at h
    split at h
    · exact .inr (Option.some.inj h).symm
    · cases h
theorem start_ok {K : PySem.W.Frag} {H : Hp} {ps : List Addr} {N : List Str} {vs : List V} {ds : List PyData} (hl : ∀ p ∈ ps, ∃ xs, H p = some (.lst xs)) (h : DpAll K (hides ps H) vs ds) : EnvOk K H (hides ps H) ps ps H (L2.start N vs) (startM N ds) := by
  have len := dp_len h
  refine ⟨Same.refl _, Same.refl _, fun _ h => h, hl, fun i m hi => ?_, fun i j m n _ hi _ a _ => ?_, ?_⟩
  · rcases startM_at hi with ⟨d, hd, rfl⟩ | rfl
    · obtain ⟨v, hv, hd⟩ := dp_get h hd
      refine ⟨v, ?_, hd⟩
      unfold L2.start
      rw [List.getElem?_append_left (by simpa using (List.getElem?_eq_some_iff.mp hv).1), List.getElem?_map, hv]
      rfl
    · trivial
  · rcases startM_at hi with ⟨d, hd, rfl⟩ | rfl <;> cases a
  · unfold L2.start startM
    rw [List.length_append, List.length_append, List.length_map, List.length_map, List.length_replicate, List.length_replicate, len]
theorem startB_ok {K : PySem.W.Frag} {H : Hp} {b : Addr} {ps : List Addr} {N : List Str} {vs : List V} {ds : List PyData} (hb : b ∈ ps) (hl : ∀ p ∈ ps, ∃ xs, H p = some (.lst xs)) (hx : BoxAt K ps H b) (h : DpAll K (hides ps H) vs ds) : EnvOk K (hides [b] H) (hides ps H) ps ps H (L2.start N (.ref b :: vs)) (startB N b ds) := by
  have len := dp_len h
  have nm : ∀ i m, (startB N b ds)[i + 1]? = some m → m.mut = false := fun i m hi => by
    have q : (startM (N.drop 1) ds)[i]? = some m := by
      have e : N.length - (ds.length + 1) = (N.drop 1).length - ds.length := by rw [List.length_drop]; omega
      unfold startB at hi
      rw [List.getElem?_cons_succ, e] at hi
      exact hi
    rcases startM_at q with ⟨d, hd, rfl⟩ | rfl <;> rfl
  refine ⟨hides_le _ _, Same.refl _, fun _ h => h, hl, fun i m hi => ?_, fun i j m n hij hi hj a b => ?_, ?_⟩
  · cases i with
    | zero =>
      have e : m = .box b := (Option.some.inj hi).symm
      subst e
      exact ⟨rfl, hb, hides_in (by simp), hx⟩
    | succ i =>
      have e : N.length - (ds.length + 1) = (N.drop 1).length - ds.length := by rw [List.length_drop]; omega
      have q : (startM (N.drop 1) ds)[i]? = some m := by
        unfold startB at hi
        rw [List.getElem?_cons_succ, e] at hi
        exact hi
      rcases startM_at q with ⟨d, hd, rfl⟩ | rfl
      · obtain ⟨v, hv, hd⟩ := dp_get h hd
        refine ⟨v, ?_, hd⟩
        show ((some (V.ref b) :: vs.map some) ++ _)[i + 1]? = _
        rw [List.cons_append, List.getElem?_cons_succ, List.getElem?_append_left (by simpa using (List.getElem?_eq_some_iff.mp hv).1), List.getElem?_map, hv]
        rfl
      · trivial
  · cases i with
    | zero =>
      cases j with
      | zero => exact absurd rfl hij
      | succ j => rw [nm j n hj] at b; cases b
    | succ i => rw [nm i m hi] at a; cases a
  · unfold L2.start startB
    simp only [List.length_append, List.length_map, List.length_replicate, List.length_cons, len]
    omega
section
variable {P : Program} {w : World} {K : PySem.W.Frag} {mg : Str → Option Value} {base : Heap}
theorem okG {x : Str} {st : Stmt} {N ps : List Str} {k : Nat} {Pre : List PyData → Prop} {R : List PyData → PyData → Prop} {dvs : List V} {kws : List (Str × V)} {fd : FuncData} (F : FunD K x x (defArgs st) (defBody st) (defScope st) dvs kws (ga K x) fd) (S : FnScope N ps (defScope st))
    (len : ∀ ds, Pre ds → ds.length = ps.length)
    (hb : ∀ (cdv : Value) (A : Around) (outer : List Env) (s : Shared) (H : Hp) (E : XK), Room k (A.deeper (envOfC x (defScope st) s.heap.objs.size (ga K x) cdv)) →
      ∃ t, PSs (cxOf CX0 P w K mg base N x (defScope st) (ga K x) cdv A outer s H E).nox (defBody st) t ∧ ∀ ds, Pre ds → Go K t (startM N ds) (fun _ => R ds .none) (fun _ r => R ds r)) : FnOk P w K mg base CX0 (k + 1) (ga K x) fd ps (SpP K Pre R) := by
  refine F.ok S (fun vs H Q E h => ?_) (fun cdv A outer s H vs Q E hr h => ?_)
  · obtain ⟨qs, ds, h1, h2, h3, _⟩ := h
    rw [dp_len h2, len ds h3]
  · obtain ⟨qs, ds, h1, h2, h3, h4⟩ := h
    obtain ⟨t, ht, go⟩ := hb cdv A outer s H E hr
    refine ⟨t, ht.nox, go ds h3 H (hides qs H) qs qs _ H (start_ok h1 h2) _ (fun ms' ps' σ' H' n E' => h4 _ H' _ n E'.keep .non) fun v ms' ps' σ' H' r hr E' hv => h4 v H' r hr E'.keep hv⟩
/-- a def that changes nothing -/
theorem okP {x : Str} {st : Stmt} {N ps : List Str} {k : Nat} {Pre : List PyData → Prop} {R : List PyData → PyData → Prop} (T : IsDef K mg x st) (S : FnScope N ps (defScope st))
    (bd : ∀ (kV doc pm : Value) (an : Option Addr) (cdv ct : Value) (us : List Value), us.length = ps.length → bindArgs (PySem.W.fnOf x x (defArgs st) (defBody st) (defScope st) .none kV doc pm an cdv ct) ⟨us, []⟩ = pure (ps.zip us))
    (len : ∀ ds, Pre ds → ds.length = ps.length)
    (hb : ∀ (cdv : Value) (A : Around) (outer : List Env) (s : Shared) (H : Hp) (E : XK), Room k (A.deeper (envOfC x (defScope st) s.heap.objs.size (ga K x) cdv)) →
      ∃ t, PSs (cxOf CX0 P w K mg base N x (defScope st) (ga K x) cdv A outer s H E).nox (defBody st) t ∧ ∀ ds, Pre ds → Go K t (startM N ds) (fun _ => R ds .none) (fun _ r => R ds r)) : OkD P w K mg base x (k + 1) ps [] (SpP K Pre R) := by
  obtain ⟨m, fd, F⟩ := T
  exact ⟨fd, [], okG F S len hb, F.bindsN bd, .nil, m, F.kp⟩
/-- a def that draws -/
theorem okB {x : Str} {st : Stmt} {N ps : List Str} {k : Nat} {Pre : List PyData → Prop} {R : List PyData → PyData → Prop} (T : IsDef K mg x st) (S : FnScope N ps (defScope st))
    (bd : ∀ (kV doc pm : Value) (an : Option Addr) (cdv ct : Value) (us : List Value), us.length = ps.length → bindArgs (PySem.W.fnOf x x (defArgs st) (defBody st) (defScope st) .none kV doc pm an cdv ct) ⟨us, []⟩ = pure (ps.zip us))
    (len : ∀ ds, Pre ds → ds.length + 1 = ps.length)
    (hb : ∀ (cdv : Value) (A : Around) (outer : List Env) (s : Shared) (H : Hp) (E : XK), Room k (A.deeper (envOfC x (defScope st) s.heap.objs.size (ga K x) cdv)) →
      ∃ t, PSs (cxOf CX0 P w K mg base N x (defScope st) (ga K x) cdv A outer s H E).nox (defBody st) t ∧ ∀ b ds, Pre ds → Go K t (startB N b ds) (fun _ => False) (fun ms r => ms[0]? = some (.box b) ∧ R ds r)) : OkD P w K mg base x (k + 1) ps [] (SpB K Pre R) := by
  obtain ⟨m, fd, F⟩ := T
  refine ⟨fd, [], ?_, F.bindsN bd, .nil, m, F.kp⟩
  refine F.ok S (fun vs H Q E h => ?_) (fun cdv A outer s H vs Q E hr h => ?_)
  · obtain ⟨b, ws, qs, ds, rfl, _, _, _, h2, h3, _⟩ := h
    rw [List.length_cons, dp_len h2, len ds h3]
  · obtain ⟨b, ws, qs, ds, rfl, hbq, h1, hx, h2, h3, h4⟩ := h
    obtain ⟨t, ht, go⟩ := hb cdv A outer s H E hr
    refine ⟨t, ht.nox, go b ds h3 (hides [b] H) (hides qs H) qs qs _ H (startB_ok hbq h1 hx h2) _ (fun ms' ps' σ' H' n E' => n.elim) fun v ms' ps' σ' H' r hr E' hv => ?_⟩
    obtain ⟨a2, c2, d2, sl, xs, i, c, s', n, q1, q2, r2⟩ := E'.slots 0 _ hr.1
    refine h4 v H' r hr.2 (fun y o e => ?_) ⟨sl, xs, i, c, s', n, q1, (see0 E').seq q2, r2⟩ hv
    rw [hides_out (hides_some e).1]
    exact E'.keep y o e
end
end Ct
namespace Ct
open PySem PySem.Spec PyProof.Rows L2 He

def pd (x : Q2) : PyData := .tuple [.int x.1, .int x.2]
def ad (z : A2) : PyData := .tuple [pd z.1, pd z.2]
theorem Sz.mul {a b : Int} (ha : a.natAbs < 2 ^ 200000) (hb : b.natAbs < 2 ^ 200000) : CMulW a b := wide_mul ha hb (by decide) (by decide) (by decide)

/-- no one listens to an import, no _pylong yet (the rest every context tells) -/
structure Seer0 (h : Heap) : Prop where
  statics : ∃ mc, h.Ns cStatics mc ∧ mc "sys.audit-hooks" = none ∧ mc "sys.dict" = none
  mods : ∃ mm, h.Ns sysModules mm ∧ mm "_pylong" = none
  main : ∃ mg bm ob, h.Ns mainGlobals mg ∧ mg "__builtins__" = some (.ref bm) ∧ h.get? bm = some ob ∧ ob.cls = .type "module" ∧ ob.dict = some builtinsNs
/-- // by a divisor above nought, of any size: the module _pylong may be asked for, but there is room -/
theorem op_fdivP {X : Cx} (hN : Seer0 X.base) (hr : Room 33 X.A) (hP : X.prog.given.tree = none) (hst : X.stack = X.env :: X.outer) (hg : X.env.scope.isGenerator = false) (hc : X.env.scope.isCoroutine = false) :
    OpR X (binaryOp .FloorDiv) (rI (fun _ j => 0 < j) fun i j => .int (i / j)) := by
  intro pins s σ H x y v u Q I rx ry h
  obtain ⟨i, j, rfl, rfl, hj, q⟩ := h
  obtain ⟨t, rfl⟩ := rx
  obtain ⟨t', rfl⟩ := ry
  have hj' : (0 : Int) < j := hj
  refine floordiv_int (by omega) ?_ (.inr (PylongRoom.of I.nolimit ?_ (SeerAt.of (Heap.NoSeer.keeps ⟨hN.statics, hN.mods, I.ok.mod.blt, hN.main⟩ I.bk) hP (env := X.env) (l := X.outer) ?_ hg hc I.ok.blt I.ok.glob)))
  · rw [Int.fdiv_eq_ediv_of_nonneg i (by omega)]
    exact ⟨.int _, H, I.tok _, ⟨_, rfl⟩, q⟩
  · have := hr.dp
    show X.A.depth + 100 < recursionLimit
    omega
  · rw [I.ok.frames, hst]

abbrev sShared : Stmt := topS 22
theorem scShared : FnScope ["one", "other"] ["one", "other"] (defScope sShared) := ⟨rfl, rfl, rfl, by decide +kernel, rfl, by decide +kernel, by decide +kernel⟩
section
variable {P : Program} {w : World} {K : PySem.W.Frag} {mg : Str → Option Value} {base : Heap}
theorem gcd_step {a b : Int} (ha : 0 ≤ a) (hb : 0 < b) : Int.gcd b (a % b) = Int.gcd a b := by
  obtain ⟨m, rfl⟩ := Int.eq_ofNat_of_zero_le ha
  obtain ⟨n, rfl⟩ := Int.eq_ofNat_of_zero_le (Int.le_of_lt hb)
  show Nat.gcd n (m % n) = Nat.gcd m n
  rw [Nat.gcd_comm m n, Nat.gcd_rec n m, Nat.gcd_comm]
theorem ok_shared_by (T : IsDef K mg "shared_by" sShared) :
    OkD P w K mg base "shared_by" 33 ["one", "other"] [] (SpP K (fun ds => ∃ a b : Int, ds = [.int a, .int b] ∧ 0 ≤ a ∧ 0 ≤ b) fun ds r => ∃ a b : Int, ds = [.int a, .int b] ∧ r = .int (Int.gcd a b)) := by
  refine okP T scShared (fun _ _ _ _ _ _ us hl => match us, hl with | [_, _], _ => rfl) (fun ds ⟨a, b, e, _⟩ => by rw [e]; rfl) fun cdv A outer s H E hr => ⟨_, pss_cons (ps_while PassesOwn.never (pt_cmpR op_ne (pv 1) pe_int (nomark _))
    (pss_one (ps_par (i := 0) (j := 1) rfl scShared.nd rfl rfl (by decide) rfl rfl (pa_cons (pv 1) (pa_cons (pe_op op_mod (pv 0) (pv 1)) pa_nil)) (by rfl)))) (pss_one (ps_ret (pv 0))), ?_⟩
  rintro ds ⟨a0, b0, rfl, h0, h1⟩
  refine go_seq (N1 := fun ms => ms = [.d (.int (Int.gcd a0 b0)), .d (.int 0)]) (go_while (fun m ms => ∃ a b : Int, ms = [.d (.int a), .d (.int b)] ∧ 0 ≤ a ∧ 0 ≤ b ∧ m = b.toNat ∧ Int.gcd a b = Int.gcd a0 b0) b0.toNat ⟨a0, b0, rfl, h0, h1, rfl, rfl⟩ ?_) ?_
  · rintro m ms1 ⟨a, b, rfl, ha, hb, rfl, hg⟩
    refine ⟨fun c => c = !decide (b = 0), et_test (ev_neI (P := (· = .bool (!decide (b = 0)))) (ev_var (i := 1) rfl) ev_int fun d1 d2 e1 e2 => ⟨b, 0, e1, e2, rfl⟩) fun d e => ⟨_, e, rfl⟩, fun hy => ?_, fun hn => ?_⟩
    · have nb : b ≠ 0 := by simpa using hy.symm
      refine go_par (ea_2 (ev_var (i := 1) rfl) (ev_I (P := (· = .int (a % b))) (ev_var (i := 0) rfl) (ev_var (i := 1) rfl) fun d1 d2 e1 e2 => ⟨a, b, e1, e2, by omega, rfl⟩)) ?_
      rintro ds rfl
      refine ⟨_, _, rfl, (a % b).toNat, ?_, b, a % b, rfl, hb, Int.emod_nonneg _ nb, rfl, ?_⟩
      · have := Int.emod_lt_of_pos a (show 0 < b by omega)
        have := Int.emod_nonneg a nb
        omega
      · rw [gcd_step ha (by omega), hg]
    · have eb : b = 0 := by simpa using hn.symm
      subst eb
      rw [Int.gcd_zero_right] at hg
      have : a = (Int.gcd a0 b0 : Int) := by rw [← hg]; omega
      rw [this]
  · rintro ms rfl
    exact go_ret (ev_var (i := 0) rfl) fun d e => ⟨a0, b0, rfl, e⟩
end
end Ct
namespace Ct
open PySem PySem.Spec PyProof.Rows L2 He

/-! ### shapes of promises -/
theorem pd_inj {x y : Q2} (h : pd x = pd y) : x = y := by
  unfold pd at h
  injection h with h
  injection h with h1 h2
  injection h2 with h2 _
  injection h1 with h1
  injection h2 with h2
  exact Prod.ext h1 h2
theorem ad_inj {x y : A2} (h : ad x = ad y) : x = y := by
  unfold ad at h
  injection h with h
  injection h with h1 h2
  injection h2 with h2 _
  exact Prod.ext (pd_inj h1) (pd_inj h2)
def PreII (c : Int → Int → Prop) (ds : List PyData) : Prop := ∃ a b, ds = [.int a, .int b] ∧ c a b
def ResII (f : Int → Int → PyData) (ds : List PyData) (r : PyData) : Prop := ∃ a b, ds = [.int a, .int b] ∧ r = f a b
def PrePP (c : Q2 → Q2 → Prop) (ds : List PyData) : Prop := ∃ a b, ds = [pd a, pd b] ∧ c a b
def ResPP (f : Q2 → Q2 → PyData) (ds : List PyData) (r : PyData) : Prop := ∃ a b, ds = [pd a, pd b] ∧ r = f a b
def PreAA (c : A2 → A2 → Prop) (ds : List PyData) : Prop := ∃ a b, ds = [ad a, ad b] ∧ c a b
def ResAA (f : A2 → A2 → PyData) (ds : List PyData) (r : PyData) : Prop := ∃ a b, ds = [ad a, ad b] ∧ r = f a b
def PreAP (c : A2 → Q2 → Prop) (ds : List PyData) : Prop := ∃ a b, ds = [ad a, pd b] ∧ c a b
def ResAP (f : A2 → Q2 → PyData) (ds : List PyData) (r : PyData) : Prop := ∃ a b, ds = [ad a, pd b] ∧ r = f a b
def PreA (c : A2 → Prop) (ds : List PyData) : Prop := ∃ a, ds = [ad a] ∧ c a
def ResA (f : A2 → PyData) (ds : List PyData) (r : PyData) : Prop := ∃ a, ds = [ad a] ∧ r = f a
theorem ResII.out {f : Int → Int → PyData} {a b : Int} {r : PyData} (h : ResII f [.int a, .int b] r) : r = f a b := by
  obtain ⟨x, y, e, rfl⟩ := h
  injection e with e1 e2
  injection e2 with e2 _
  injection e1 with e1
  injection e2 with e2
  rw [e1, e2]
theorem ResPP.out {f : Q2 → Q2 → PyData} {a b : Q2} {r : PyData} (h : ResPP f [pd a, pd b] r) : r = f a b := by
  obtain ⟨x, y, e, rfl⟩ := h
  injection e with e1 e2
  injection e2 with e2 _
  rw [pd_inj e1, pd_inj e2]
theorem ResAA.out {f : A2 → A2 → PyData} {a b : A2} {r : PyData} (h : ResAA f [ad a, ad b] r) : r = f a b := by
  obtain ⟨x, y, e, rfl⟩ := h
  injection e with e1 e2
  injection e2 with e2 _
  rw [ad_inj e1, ad_inj e2]
theorem ResAP.out {f : A2 → Q2 → PyData} {a : A2} {b : Q2} {r : PyData} (h : ResAP f [ad a, pd b] r) : r = f a b := by
  obtain ⟨x, y, e, rfl⟩ := h
  injection e with e1 e2
  injection e2 with e2 _
  rw [ad_inj e1, pd_inj e2]
theorem ResA.out {f : A2 → PyData} {a : A2} {r : PyData} (h : ResA f [ad a] r) : r = f a := by
  obtain ⟨x, e, rfl⟩ := h
  injection e with e1 _
  rw [ad_inj e1]
abbrev SpII (K : PySem.W.Frag) (c : Int → Int → Prop) (f : Int → Int → PyData) : Sp := SpP K (PreII c) (ResII f)
abbrev SpPP (K : PySem.W.Frag) (c : Q2 → Q2 → Prop) (f : Q2 → Q2 → PyData) : Sp := SpP K (PrePP c) (ResPP f)
abbrev SpAA (K : PySem.W.Frag) (c : A2 → A2 → Prop) (f : A2 → A2 → PyData) : Sp := SpP K (PreAA c) (ResAA f)
abbrev SpAP (K : PySem.W.Frag) (c : A2 → Q2 → Prop) (f : A2 → Q2 → PyData) : Sp := SpP K (PreAP c) (ResAP f)
abbrev SpA (K : PySem.W.Frag) (c : A2 → Prop) (f : A2 → PyData) : Sp := SpP K (PreA c) (ResA f)
section
variable {K : PySem.W.Frag} {ms : List Slot} {ta tb te : TE} {al ar : TA}
theorem ca_II {c : Int → Int → Prop} {f : Int → Int → PyData} {a b : Int} (ha : Ev K ta ms (· = .int a)) (hb : Ev K tb ms (· = .int b)) (h : c a b) : Ev K (tCall (SpII K c f) [] E0 (tCons ta (tCons tb tNil))) ms (· = f a b) :=
  ev_call (ea_2 ha hb) fun ds e => by subst e; exact ⟨⟨a, b, rfl, h⟩, fun r hr => hr.out⟩
theorem ca_PP {c : Q2 → Q2 → Prop} {f : Q2 → Q2 → PyData} {a b : Q2} (ha : Ev K ta ms (· = pd a)) (hb : Ev K tb ms (· = pd b)) (h : c a b) : Ev K (tCall (SpPP K c f) [] E0 (tCons ta (tCons tb tNil))) ms (· = f a b) :=
  ev_call (ea_2 ha hb) fun ds e => by subst e; exact ⟨⟨a, b, rfl, h⟩, fun r hr => hr.out⟩
theorem ca_AA {c : A2 → A2 → Prop} {f : A2 → A2 → PyData} {a b : A2} (ha : Ev K ta ms (· = ad a)) (hb : Ev K tb ms (· = ad b)) (h : c a b) : Ev K (tCall (SpAA K c f) [] E0 (tCons ta (tCons tb tNil))) ms (· = f a b) :=
  ev_call (ea_2 ha hb) fun ds e => by subst e; exact ⟨⟨a, b, rfl, h⟩, fun r hr => hr.out⟩
theorem ca_AP {c : A2 → Q2 → Prop} {f : A2 → Q2 → PyData} {a : A2} {b : Q2} (ha : Ev K ta ms (· = ad a)) (hb : Ev K tb ms (· = pd b)) (h : c a b) : Ev K (tCall (SpAP K c f) [] E0 (tCons ta (tCons tb tNil))) ms (· = f a b) :=
  ev_call (ea_2 ha hb) fun ds e => by subst e; exact ⟨⟨a, b, rfl, h⟩, fun r hr => hr.out⟩
theorem ca_A {c : A2 → Prop} {f : A2 → PyData} {a : A2} (ha : Ev K ta ms (· = ad a)) (h : c a) : Ev K (tCall (SpA K c f) [] E0 (tCons ta tNil)) ms (· = f a) :=
  ev_call (ea_1 ha) fun ds e => by subst e; exact ⟨⟨a, rfl, h⟩, fun r hr => hr.out⟩
theorem at0 {α : Type} {a b : α} : atI [a, b] 0 = some a := rfl
theorem at1 {α : Type} {a b : α} : atI [a, b] 1 = some b := rfl
theorem e_p0 {x : Q2} (h : Ev K te ms (· = pd x)) : Ev K (tOp (rIxT K) te (tC (.int 0))) ms (· = .int x.1) := ev_ixT h ev_int fun d1 d2 e1 e2 => ⟨_, _, _, e1, e2, at0, rfl⟩
theorem e_p1 {x : Q2} (h : Ev K te ms (· = pd x)) : Ev K (tOp (rIxT K) te (tC (.int 1))) ms (· = .int x.2) := ev_ixT h ev_int fun d1 d2 e1 e2 => ⟨_, _, _, e1, e2, at1, rfl⟩
theorem e_a0 {x : A2} (h : Ev K te ms (· = ad x)) : Ev K (tOp (rIxT K) te (tC (.int 0))) ms (· = pd x.1) := ev_ixT h ev_int fun d1 d2 e1 e2 => ⟨_, _, _, e1, e2, at0, rfl⟩
theorem e_a1 {x : A2} (h : Ev K te ms (· = ad x)) : Ev K (tOp (rIxT K) te (tC (.int 1))) ms (· = pd x.2) := ev_ixT h ev_int fun d1 d2 e1 e2 => ⟨_, _, _, e1, e2, at1, rfl⟩
theorem e_mulW {a b : Int} (ha : Ev K ta ms (· = .int a)) (hb : Ev K tb ms (· = .int b)) (h1 : a.natAbs < 2 ^ 200000) (h2 : b.natAbs < 2 ^ 200000) : Ev K (tOp (rI CMulW fun i j => .int (i * j)) ta tb) ms (· = .int (a * b)) :=
  ev_I ha hb fun d1 d2 e1 e2 => ⟨a, b, e1, e2, Sz.mul h1 h2, rfl⟩
theorem e_add {a b : Int} (ha : Ev K ta ms (· = .int a)) (hb : Ev K tb ms (· = .int b)) : Ev K (tOp (rI0 fun i j => .int (i + j)) ta tb) ms (· = .int (a + b)) :=
  ev_I0 ha hb fun d1 d2 e1 e2 => ⟨a, b, e1, e2, rfl⟩
theorem e_sub {a b : Int} (ha : Ev K ta ms (· = .int a)) (hb : Ev K tb ms (· = .int b)) : Ev K (tOp (rI0 fun i j => .int (i - j)) ta tb) ms (· = .int (a - b)) :=
  ev_I0 ha hb fun d1 d2 e1 e2 => ⟨a, b, e1, e2, rfl⟩
theorem e_pair {x y : PyData} (ha : Ev K ta ms (· = x)) (hb : Ev K tb ms (· = y)) : Ev K (tTup (tCons ta (tCons tb tNil))) ms (· = .tuple [x, y]) :=
  ev_tup (ea_2 ha hb) fun ds e => by subst e; exact ⟨by simp, rfl⟩
theorem e_neg {i : Int} (h : Ev K te ms (· = .int i)) : Ev K (tUn (rU fun i => .int (-i)) te) ms (· = .int (-i)) :=
  ev_un h fun ps H x d1 Q _ p1 h1 k => by subst p1; exact ⟨i, dp_int h1, k _ H _ rfl (Same.refl _) (.int _)⟩
theorem e_eqI {a b : Int} (ha : Ev K ta ms (· = .int a)) (hb : Ev K tb ms (· = .int b)) : Ev K (tOp rEq ta tb) ms (· = .bool (decide (a = b))) := ev_eqI ha hb fun d1 d2 e1 e2 => ⟨a, b, e1, e2, rfl⟩
theorem e_neI {a b : Int} (ha : Ev K ta ms (· = .int a)) (hb : Ev K tb ms (· = .int b)) : Ev K (tOp rNe ta tb) ms (· = .bool (!decide (a = b))) := ev_neI ha hb fun d1 d2 e1 e2 => ⟨a, b, e1, e2, rfl⟩
theorem e_gt {a b : Int} (ha : Ev K ta ms (· = .int a)) (hb : Ev K tb ms (· = .int b)) : Ev K (tOp (rI0 fun i j => .bl (decide (j < i))) ta tb) ms (· = .bool (decide (b < a))) := ev_B0 ha hb fun d1 d2 e1 e2 => ⟨a, b, e1, e2, rfl⟩
theorem t_test {b : Bool} (h : Ev K te ms (· = .bool b)) : EvT K (tTest te) ms (· = b) := et_test h fun d e => ⟨b, e, rfl⟩
theorem e_abs {i : Int} (h : Ev K te ms (· = .int i)) : Ev K (tCB (fun xs H Q => ∃ i, xs = [.int i] ∧ Q (.int (if i < 0 then -i else i)) H) (tCons te tNil)) ms (· = .int (i.natAbs : Int)) :=
  ev_abs (ea_1 h) fun ds e => ⟨i, e, by
    have : (if i < 0 then -i else i) = (i.natAbs : Int) := by split <;> omega
    rw [this]⟩
end
/-! ### the two lowest ones -/
abbrev sPart : Stmt := topS 23
abbrev sLow : Stmt := topS 45
theorem scPart : FnScope ["over", "under", "low", "sign"] ["over", "under"] (defScope sPart) := ⟨rfl, rfl, rfl, by decide +kernel, rfl, by decide +kernel, by decide +kernel⟩
theorem scLow : FnScope ["_law_above", "_law_beneath", "_law_one", "_law_other", "_law_side"] ["_law_above", "_law_beneath"] (defScope sLow) := ⟨rfl, rfl, rfl, by decide +kernel, rfl, by decide +kernel, by decide +kernel⟩
def IsDefD (K : PySem.W.Frag) (mg : Str → Option Value) (x : Str) (st : Stmt) (dvs : List V) (kws : List (Str × V)) : Prop :=
  mg x = some (.ref (ga K x)) ∧ ∃ fd, FunD K x x (defArgs st) (defBody st) (defScope st) dvs kws (ga K x) fd
/-- what stands for the whole: no one listens, no files of the run -/
structure Still (P : Program) (base : Heap) : Prop where
  seer : Seer0 base
  tree : P.given.tree = none
theorem gcd_pos {a b : Int} (hb : b ≠ 0) : (0 : Int) < Int.gcd a b := by
  have : Int.gcd a b ≠ 0 := fun z => hb (Int.gcd_eq_zero_iff.mp z).2
  omega
theorem sgn_small (b : Int) : CMul (if b > 0 then 1 else -1) a := by
  unfold CMul; left; split <;> constructor <;> decide
section
variable {P : Program} {w : World} {K : PySem.W.Frag} {mg : Str → Option Value} {base : Heap} {ms : List Slot} {ta tb te : TE}
theorem e_fdivP {a b : Int} (ha : Ev K ta ms (· = .int a)) (hb : Ev K tb ms (· = .int b)) (h : 0 < b) : Ev K (tOp (rI (fun _ j => 0 < j) fun i j => .int (i / j)) ta tb) ms (· = .int (a / b)) :=
  ev_I ha hb fun d1 d2 e1 e2 => ⟨a, b, e1, e2, h, rfl⟩
theorem e_mulS {a b : Int} (ha : Ev K ta ms (· = .int a)) (hb : Ev K tb ms (· = .int b)) (h : CMul a b) : Ev K (tOp (rI CMul fun i j => .int (i * j)) ta tb) ms (· = .int (a * b)) :=
  ev_I ha hb fun d1 d2 e1 e2 => ⟨a, b, e1, e2, h, rfl⟩
abbrev spLow (K : PySem.W.Frag) : Sp := SpII K (fun _ b => b ≠ 0) fun a b => pd (low a b)
theorem ok_part (T : IsDefD K mg "part" sPart [.int 1] []) (St : Still P base) (ma : mg "abs" = none)
    (hs : OkD P w K mg base "shared_by" 33 ["one", "other"] [] (SpP K (fun ds => ∃ a b : Int, ds = [.int a, .int b] ∧ 0 ≤ a ∧ 0 ≤ b) fun ds r => ∃ a b : Int, ds = [.int a, .int b] ∧ r = .int (Int.gcd a b))) :
    OkD P w K mg base "part" 34 ["over", "under"] [] (spLow K) := by
  obtain ⟨m, fd, F⟩ := T
  obtain ⟨ds, r, b⟩ := F.binds1 (ps := ["over", "under"]) 2 1 (by simp) rfl fun T kV doc pm an cdv ct us its hu hi => match us, its, hu, hi with | [_, _], [_], _, _ => ⟨_, rfl, rfl⟩
  cases r
  refine ⟨fd, [], ?_, b, .nil, m, F.kp⟩
  refine okG F scPart (fun ds ⟨a, b, e, _⟩ => by rw [e]; rfl) fun cdv A outer s H E hr => ⟨_, pss_cons (ps_if (pt_cmpR op_eq (pv 1) pe_int (nomark _)) pss_never pss_nil)
    (pss_cons (ps_set (i := 2) scPart.nd rfl (.inl rfl) (pe_fn hs hr (pa_cons (pe_callB call_abs (by rfl) ma (by decide +kernel) (pa_cons (pv 0) pa_nil)) (pa_cons (pe_callB call_abs (by rfl) ma (by decide +kernel) (pa_cons (pv 1) pa_nil)) pa_nil))))
    (pss_cons (ps_set (i := 3) scPart.nd rfl (.inl rfl) (pe_ifExp (pt_cmpR op_gt (pv 1) pe_int (nomark _)) pe_int (pe_un un_neg pe_int)))
    (pss_one (ps_ret (pe_tup (pa_cons (pe_op (op_fdivP St.seer hr St.tree rfl rfl rfl) (pe_op op_mul (pv 3) (pv 0)) (pv 2)) (pa_cons (pe_op (op_fdivP St.seer hr St.tree rfl rfl rfl) (pe_op op_mul (pv 3) (pv 1)) (pv 2)) pa_nil))))))), ?_⟩
  rintro ds ⟨x, y, rfl, hy⟩
  refine go_seq (N1 := fun ms => ms = [.d (.int x), .d (.int y), .no, .no]) (go_if (t_test (e_eqI (ev_var (i := 1) rfl) ev_int)) (fun z => absurd (of_decide_eq_true z.symm) hy) fun _ => go_next rfl) ?_
  rintro ms rfl
  refine go_seq (N1 := fun ms => ms = [.d (.int x), .d (.int y), .d (.int (Int.gcd x y)), .no]) (go_set (P := (· = .int (Int.gcd x y))) (ev_call (ea_2 (e_abs (ev_var (i := 0) rfl)) (e_abs (ev_var (i := 1) rfl))) fun ds e => ?_) fun d e => by rw [e]; rfl) ?_
  · subst e
    refine ⟨⟨_, _, rfl, Int.natCast_nonneg _, Int.natCast_nonneg _⟩, fun r ⟨a, b, e, er⟩ => ?_⟩
    injection e with e1 e2
    injection e2 with e2 _
    injection e1 with e1
    injection e2 with e2
    rw [er, ← e1, ← e2]
    rfl
  rintro ms rfl
  refine go_seq (N1 := fun ms => ms = [.d (.int x), .d (.int y), .d (.int (Int.gcd x y)), .d (.int (if y > 0 then 1 else -1))]) (go_set (P := (· = .int (if y > 0 then 1 else -1))) (ev_if (t_test (e_gt (ev_var (i := 1) rfl) ev_int)) (fun z => ?_) fun z => ?_) fun d e => by rw [e]; rfl) ?_
  · rw [if_pos (of_decide_eq_true z.symm)]; exact ev_int
  · rw [if_neg (of_decide_eq_false z.symm)]; exact e_neg ev_int
  rintro ms rfl
  exact go_ret (e_pair (e_fdivP (e_mulS (ev_var (i := 3) rfl) (ev_var (i := 0) rfl) (sgn_small y)) (ev_var (i := 2) rfl) (gcd_pos hy)) (e_fdivP (e_mulS (ev_var (i := 3) rfl) (ev_var (i := 1) rfl) (sgn_small y)) (ev_var (i := 2) rfl) (gcd_pos hy))) fun d e => ⟨x, y, rfl, e⟩
theorem ok_low (T : IsDef K mg "_law_low" sLow) (St : Still P base) (ma : mg "abs" = none) : OkD P w K mg base "_law_low" 34 ["_law_above", "_law_beneath"] [] (spLow K) := by
  refine okP T scLow (fun _ _ _ _ _ _ us hl => match us, hl with | [_, _], _ => rfl) (fun ds ⟨a, b, e, _⟩ => by rw [e]; rfl) fun cdv A outer s H E hr => ⟨_,
    pss_cons (ps_par (i := 2) (j := 3) rfl scLow.nd rfl rfl (by decide) rfl rfl (pa_cons (pe_callB call_abs (by rfl) ma (by decide +kernel) (pa_cons (pv 0) pa_nil)) (pa_cons (pe_callB call_abs (by rfl) ma (by decide +kernel) (pa_cons (pv 1) pa_nil)) pa_nil)) (by rfl))
    (pss_cons (ps_while PassesOwn.never (pt_cmpR op_ne (pv 3) pe_int (nomark _)) (pss_one (ps_par (i := 2) (j := 3) rfl scLow.nd rfl rfl (by decide) rfl rfl (pa_cons (pv 3) (pa_cons (pe_op op_mod (pv 2) (pv 3)) pa_nil)) (by rfl))))
    (pss_cons (ps_set (i := 4) scLow.nd rfl (.inl rfl) (pe_ifExp (pt_cmpR op_gt (pv 1) pe_int (nomark _)) pe_int (pe_un un_neg pe_int)))
    (pss_one (ps_ret (pe_tup (pa_cons (pe_op (op_fdivP St.seer hr St.tree rfl rfl rfl) (pe_op op_mul (pv 4) (pv 0)) (pv 2)) (pa_cons (pe_op (op_fdivP St.seer hr St.tree rfl rfl rfl) (pe_op op_mul (pv 4) (pv 1)) (pv 2)) pa_nil))))))), ?_⟩
  rintro ds ⟨x, y, rfl, hy⟩
  refine go_seq (N1 := fun ms => ms = [.d (.int x), .d (.int y), .d (.int (x.natAbs : Int)), .d (.int (y.natAbs : Int)), .no]) (go_par (ea_2 (e_abs (ev_var (i := 0) rfl)) (e_abs (ev_var (i := 1) rfl))) fun ds e => ⟨_, _, e, rfl⟩) ?_
  rintro ms rfl
  refine go_seq (N1 := fun ms => ms = [.d (.int x), .d (.int y), .d (.int (Int.gcd x y)), .d (.int 0), .no]) (go_while (fun m ms => ∃ a b : Int, ms = [.d (.int x), .d (.int y), .d (.int a), .d (.int b), .no] ∧ 0 ≤ a ∧ 0 ≤ b ∧ m = b.toNat ∧ Int.gcd a b = Int.gcd x y) _ ⟨_, _, rfl, Int.natCast_nonneg _, Int.natCast_nonneg _, rfl, rfl⟩ ?_) ?_
  · rintro m ms1 ⟨a, b, rfl, ha, hb, rfl, hg⟩
    refine ⟨fun c => c = !decide (b = 0), t_test (e_neI (ev_var (i := 3) rfl) ev_int), fun hy => ?_, fun hn => ?_⟩
    · have nb : b ≠ 0 := by simpa using hy.symm
      refine go_par (ea_2 (ev_var (i := 3) rfl) (ev_I (P := (· = .int (a % b))) (ev_var (i := 2) rfl) (ev_var (i := 3) rfl) fun d1 d2 e1 e2 => ⟨a, b, e1, e2, by omega, rfl⟩)) ?_
      rintro ds rfl
      refine ⟨_, _, rfl, (a % b).toNat, ?_, b, a % b, rfl, hb, Int.emod_nonneg _ nb, rfl, ?_⟩
      · have := Int.emod_lt_of_pos a (show 0 < b by omega)
        have := Int.emod_nonneg a nb
        omega
      · rw [gcd_step ha (by omega), hg]
    · have eb : b = 0 := by simpa using hn.symm
      subst eb
      rw [Int.gcd_zero_right] at hg
      have : a = (Int.gcd x y : Int) := by rw [← hg]; omega
      rw [this]
  rintro ms rfl
  refine go_seq (N1 := fun ms => ms = [.d (.int x), .d (.int y), .d (.int (Int.gcd x y)), .d (.int 0), .d (.int (if y > 0 then 1 else -1))]) (go_set (P := (· = .int (if y > 0 then 1 else -1))) (ev_if (t_test (e_gt (ev_var (i := 1) rfl) ev_int)) (fun z => ?_) fun z => ?_) fun d e => by rw [e]; rfl) ?_
  · rw [if_pos (of_decide_eq_true z.symm)]; exact ev_int
  · rw [if_neg (of_decide_eq_false z.symm)]; exact e_neg ev_int
  rintro ms rfl
  exact go_ret (e_pair (e_fdivP (e_mulS (ev_var (i := 4) rfl) (ev_var (i := 0) rfl) (sgn_small y)) (ev_var (i := 2) rfl) (gcd_pos hy)) (e_fdivP (e_mulS (ev_var (i := 4) rfl) (ev_var (i := 1) rfl) (sgn_small y)) (ev_var (i := 2) rfl) (gcd_pos hy))) fun d e => ⟨x, y, rfl, e⟩
end
end Ct
namespace Ct
open PySem PySem.Spec PyProof.Rows L2 He
abbrev spPlus (K : PySem.W.Frag) : Sp := SpPP K (fun x y => Sz x ∧ Sz y) fun x y => pd (plus x y)
abbrev spLess (K : PySem.W.Frag) : Sp := SpPP K (fun x y => Sz x ∧ Sz y) fun x y => pd (less x y)
abbrev spTimes (K : PySem.W.Frag) : Sp := SpPP K (fun x y => Sz x ∧ Sz y) fun x y => pd (times x y)
abbrev spOver (K : PySem.W.Frag) : Sp := SpPP K (fun x y => Sz x ∧ Sz y ∧ y.1 ≠ 0) fun x y => pd (over x y)
abbrev spSummed (K : PySem.W.Frag) : Sp := SpAA K (fun x y => SzA x ∧ SzA y) fun x y => ad (summed x y)
abbrev spOff (K : PySem.W.Frag) : Sp := SpAA K (fun x y => SzA x ∧ SzA y) fun x y => ad (off x y)
abbrev spMade (K : PySem.W.Frag) : Sp := SpAA K SzMade fun x y => ad (made x y)
abbrev spOften (K : PySem.W.Frag) : Sp := SpAP K (fun x y => SzA x ∧ Sz y) fun x y => ad (often x y)
abbrev spWeight (K : PySem.W.Frag) : Sp := SpA K SzWeight fun x => pd (weight x)
abbrev spMate (K : PySem.W.Frag) : Sp := SpA K SzA fun x => ad (mate x)
abbrev spMateL (K : PySem.W.Frag) : Sp := SpA K (fun _ => True) fun x => ad (mateL x)
theorem under_ne {x y : Q2} (hx : Sz x) (hy : Sz y) : x.2 * y.2 ≠ 0 := by
  have h1 : 0 < x.2 := hx.2.2
  have h2 : 0 < y.2 := hy.2.2
  exact Int.ne_of_gt (Int.mul_pos h1 h2)
theorem Sz.zero : Sz (0, 1) := ⟨by show (0 : Nat) < _; exact Nat.two_pow_pos _, by show (1 : Nat) < _; exact Nat.one_lt_two_pow (by decide), by decide⟩
theorem Sz.one : Sz (1, 1) := ⟨by show (1 : Nat) < _; exact Nat.one_lt_two_pow (by decide), by show (1 : Nat) < _; exact Nat.one_lt_two_pow (by decide), by decide⟩
section
variable {P : Program} {w : World} {K : PySem.W.Frag} {mg : Str → Option Value} {base : Heap}

abbrev s_plus : Stmt := topS 24
theorem sc_plus : FnScope ["one", "other"] ["one", "other"] (defScope s_plus) := ⟨rfl, rfl, rfl, by decide +kernel, rfl, by decide +kernel, by decide +kernel⟩
theorem ok_plus (T : IsDef K mg "plus" s_plus) (hl : OkD P w K mg base "part" 34 ["over", "under"] [] (spLow K))  : OkD P w K mg base "plus" 35 ["one", "other"] [] (spPlus K) := by
  refine okP T sc_plus (fun _ _ _ _ _ _ us hl => match us, hl with | [_, _], _ => rfl) (fun ds ⟨a, b, e, _⟩ => by rw [e]; rfl) fun cdv A outer s H E hr => ⟨_,
    pss_one (ps_ret (pe_fn hl hr (pa_cons (pe_op op_add (pe_op op_mulW (pe_ix ix_tup (pv 0) pe_int (fun _ _ => rfl)) (pe_ix ix_tup (pv 1) pe_int (fun _ _ => rfl))) (pe_op op_mulW (pe_ix ix_tup (pv 1) pe_int (fun _ _ => rfl)) (pe_ix ix_tup (pv 0) pe_int (fun _ _ => rfl)))) (pa_cons (pe_op op_mulW (pe_ix ix_tup (pv 0) pe_int (fun _ _ => rfl)) (pe_ix ix_tup (pv 1) pe_int (fun _ _ => rfl))) pa_nil)))), ?_⟩
  rintro ds ⟨x, y, rfl, hx, hy⟩
  exact go_ret (ca_II (e_add (e_mulW (e_p0 (ev_var (i := 0) rfl)) (e_p1 (ev_var (i := 1) rfl)) hx.1 hy.2.1) (e_mulW (e_p0 (ev_var (i := 1) rfl)) (e_p1 (ev_var (i := 0) rfl)) hy.1 hx.2.1)) (e_mulW (e_p1 (ev_var (i := 0) rfl)) (e_p1 (ev_var (i := 1) rfl)) hx.2.1 hy.2.1) (under_ne hx hy)) fun d e => ⟨x, y, rfl, e⟩
abbrev s_less : Stmt := topS 25
theorem sc_less : FnScope ["one", "other"] ["one", "other"] (defScope s_less) := ⟨rfl, rfl, rfl, by decide +kernel, rfl, by decide +kernel, by decide +kernel⟩
theorem ok_less (T : IsDef K mg "less" s_less) (hl : OkD P w K mg base "part" 34 ["over", "under"] [] (spLow K))  : OkD P w K mg base "less" 35 ["one", "other"] [] (spLess K) := by
  refine okP T sc_less (fun _ _ _ _ _ _ us hl => match us, hl with | [_, _], _ => rfl) (fun ds ⟨a, b, e, _⟩ => by rw [e]; rfl) fun cdv A outer s H E hr => ⟨_,
    pss_one (ps_ret (pe_fn hl hr (pa_cons (pe_op op_sub (pe_op op_mulW (pe_ix ix_tup (pv 0) pe_int (fun _ _ => rfl)) (pe_ix ix_tup (pv 1) pe_int (fun _ _ => rfl))) (pe_op op_mulW (pe_ix ix_tup (pv 1) pe_int (fun _ _ => rfl)) (pe_ix ix_tup (pv 0) pe_int (fun _ _ => rfl)))) (pa_cons (pe_op op_mulW (pe_ix ix_tup (pv 0) pe_int (fun _ _ => rfl)) (pe_ix ix_tup (pv 1) pe_int (fun _ _ => rfl))) pa_nil)))), ?_⟩
  rintro ds ⟨x, y, rfl, hx, hy⟩
  exact go_ret (ca_II (e_sub (e_mulW (e_p0 (ev_var (i := 0) rfl)) (e_p1 (ev_var (i := 1) rfl)) hx.1 hy.2.1) (e_mulW (e_p0 (ev_var (i := 1) rfl)) (e_p1 (ev_var (i := 0) rfl)) hy.1 hx.2.1)) (e_mulW (e_p1 (ev_var (i := 0) rfl)) (e_p1 (ev_var (i := 1) rfl)) hx.2.1 hy.2.1) (under_ne hx hy)) fun d e => ⟨x, y, rfl, e⟩
abbrev s_times : Stmt := topS 26
theorem sc_times : FnScope ["one", "other"] ["one", "other"] (defScope s_times) := ⟨rfl, rfl, rfl, by decide +kernel, rfl, by decide +kernel, by decide +kernel⟩
theorem ok_times (T : IsDef K mg "times" s_times) (hl : OkD P w K mg base "part" 34 ["over", "under"] [] (spLow K))  : OkD P w K mg base "times" 35 ["one", "other"] [] (spTimes K) := by
  refine okP T sc_times (fun _ _ _ _ _ _ us hl => match us, hl with | [_, _], _ => rfl) (fun ds ⟨a, b, e, _⟩ => by rw [e]; rfl) fun cdv A outer s H E hr => ⟨_,
    pss_one (ps_ret (pe_fn hl hr (pa_cons (pe_op op_mulW (pe_ix ix_tup (pv 0) pe_int (fun _ _ => rfl)) (pe_ix ix_tup (pv 1) pe_int (fun _ _ => rfl))) (pa_cons (pe_op op_mulW (pe_ix ix_tup (pv 0) pe_int (fun _ _ => rfl)) (pe_ix ix_tup (pv 1) pe_int (fun _ _ => rfl))) pa_nil)))), ?_⟩
  rintro ds ⟨x, y, rfl, hx, hy⟩
  exact go_ret (ca_II (e_mulW (e_p0 (ev_var (i := 0) rfl)) (e_p0 (ev_var (i := 1) rfl)) hx.1 hy.1) (e_mulW (e_p1 (ev_var (i := 0) rfl)) (e_p1 (ev_var (i := 1) rfl)) hx.2.1 hy.2.1) (under_ne hx hy)) fun d e => ⟨x, y, rfl, e⟩
abbrev s_over : Stmt := topS 27
theorem sc_over : FnScope ["one", "other"] ["one", "other"] (defScope s_over) := ⟨rfl, rfl, rfl, by decide +kernel, rfl, by decide +kernel, by decide +kernel⟩
theorem ok_over (T : IsDef K mg "over" s_over) (hl : OkD P w K mg base "part" 34 ["over", "under"] [] (spLow K))  : OkD P w K mg base "over" 35 ["one", "other"] [] (spOver K) := by
  refine okP T sc_over (fun _ _ _ _ _ _ us hl => match us, hl with | [_, _], _ => rfl) (fun ds ⟨a, b, e, _⟩ => by rw [e]; rfl) fun cdv A outer s H E hr => ⟨_,
    pss_cons (ps_if (pt_cmpR op_eq (pe_ix ix_tup (pv 1) pe_int (fun _ _ => rfl)) pe_int (nomark _)) pss_never pss_nil) (pss_one (ps_ret (pe_fn hl hr (pa_cons (pe_op op_mulW (pe_ix ix_tup (pv 0) pe_int (fun _ _ => rfl)) (pe_ix ix_tup (pv 1) pe_int (fun _ _ => rfl))) (pa_cons (pe_op op_mulW (pe_ix ix_tup (pv 0) pe_int (fun _ _ => rfl)) (pe_ix ix_tup (pv 1) pe_int (fun _ _ => rfl))) pa_nil))))), ?_⟩
  rintro ds ⟨x, y, rfl, hx, hy, hn⟩
  refine go_seq (N1 := fun ms => ms = [.d (pd x), .d (pd y)]) (go_if (t_test (e_eqI (e_p0 (ev_var (i := 1) rfl)) ev_int)) (fun z => absurd (of_decide_eq_true z.symm) hn) fun _ => go_next rfl) ?_
  rintro ms rfl
  exact go_ret (ca_II (e_mulW (e_p0 (ev_var (i := 0) rfl)) (e_p1 (ev_var (i := 1) rfl)) hx.1 hy.2.1) (e_mulW (e_p1 (ev_var (i := 0) rfl)) (e_p0 (ev_var (i := 1) rfl)) hx.2.1 hy.1) (Int.mul_ne_zero (Int.ne_of_gt hx.2.2) hn)) fun d e => ⟨x, y, rfl, e⟩
abbrev s_summed : Stmt := topS 31
theorem sc_summed : FnScope ["one", "other"] ["one", "other"] (defScope s_summed) := ⟨rfl, rfl, rfl, by decide +kernel, rfl, by decide +kernel, by decide +kernel⟩
theorem ok_summed (T : IsDef K mg "summed" s_summed) (hp : OkD P w K mg base "plus" 35 ["one", "other"] [] (spPlus K))  : OkD P w K mg base "summed" 36 ["one", "other"] [] (spSummed K) := by
  refine okP T sc_summed (fun _ _ _ _ _ _ us hl => match us, hl with | [_, _], _ => rfl) (fun ds ⟨a, b, e, _⟩ => by rw [e]; rfl) fun cdv A outer s H E hr => ⟨_,
    pss_one (ps_ret (pe_tup (pa_cons (pe_fn hp hr (pa_cons (pe_ix ix_tup (pv 0) pe_int (fun _ _ => rfl)) (pa_cons (pe_ix ix_tup (pv 1) pe_int (fun _ _ => rfl)) pa_nil))) (pa_cons (pe_fn hp hr (pa_cons (pe_ix ix_tup (pv 0) pe_int (fun _ _ => rfl)) (pa_cons (pe_ix ix_tup (pv 1) pe_int (fun _ _ => rfl)) pa_nil))) pa_nil)))), ?_⟩
  rintro ds ⟨x, y, rfl, hx, hy⟩
  exact go_ret (e_pair (ca_PP (e_a0 (ev_var (i := 0) rfl)) (e_a0 (ev_var (i := 1) rfl)) ⟨hx.1, hy.1⟩) (ca_PP (e_a1 (ev_var (i := 0) rfl)) (e_a1 (ev_var (i := 1) rfl)) ⟨hx.2, hy.2⟩)) fun d e => ⟨x, y, rfl, e⟩
abbrev s_off : Stmt := topS 32
theorem sc_off : FnScope ["one", "other"] ["one", "other"] (defScope s_off) := ⟨rfl, rfl, rfl, by decide +kernel, rfl, by decide +kernel, by decide +kernel⟩
theorem ok_off (T : IsDef K mg "off" s_off) (hs : OkD P w K mg base "less" 35 ["one", "other"] [] (spLess K))  : OkD P w K mg base "off" 36 ["one", "other"] [] (spOff K) := by
  refine okP T sc_off (fun _ _ _ _ _ _ us hl => match us, hl with | [_, _], _ => rfl) (fun ds ⟨a, b, e, _⟩ => by rw [e]; rfl) fun cdv A outer s H E hr => ⟨_,
    pss_one (ps_ret (pe_tup (pa_cons (pe_fn hs hr (pa_cons (pe_ix ix_tup (pv 0) pe_int (fun _ _ => rfl)) (pa_cons (pe_ix ix_tup (pv 1) pe_int (fun _ _ => rfl)) pa_nil))) (pa_cons (pe_fn hs hr (pa_cons (pe_ix ix_tup (pv 0) pe_int (fun _ _ => rfl)) (pa_cons (pe_ix ix_tup (pv 1) pe_int (fun _ _ => rfl)) pa_nil))) pa_nil)))), ?_⟩
  rintro ds ⟨x, y, rfl, hx, hy⟩
  exact go_ret (e_pair (ca_PP (e_a0 (ev_var (i := 0) rfl)) (e_a0 (ev_var (i := 1) rfl)) ⟨hx.1, hy.1⟩) (ca_PP (e_a1 (ev_var (i := 0) rfl)) (e_a1 (ev_var (i := 1) rfl)) ⟨hx.2, hy.2⟩)) fun d e => ⟨x, y, rfl, e⟩
abbrev s_often : Stmt := topS 35
theorem sc_often : FnScope ["one", "many"] ["one", "many"] (defScope s_often) := ⟨rfl, rfl, rfl, by decide +kernel, rfl, by decide +kernel, by decide +kernel⟩
theorem ok_often (T : IsDef K mg "often" s_often) (ht : OkD P w K mg base "times" 35 ["one", "other"] [] (spTimes K))  : OkD P w K mg base "often" 36 ["one", "many"] [] (spOften K) := by
  refine okP T sc_often (fun _ _ _ _ _ _ us hl => match us, hl with | [_, _], _ => rfl) (fun ds ⟨a, b, e, _⟩ => by rw [e]; rfl) fun cdv A outer s H E hr => ⟨_,
    pss_one (ps_ret (pe_tup (pa_cons (pe_fn ht hr (pa_cons (pe_ix ix_tup (pv 0) pe_int (fun _ _ => rfl)) (pa_cons (pv 1) pa_nil))) (pa_cons (pe_fn ht hr (pa_cons (pe_ix ix_tup (pv 0) pe_int (fun _ _ => rfl)) (pa_cons (pv 1) pa_nil))) pa_nil)))), ?_⟩
  rintro ds ⟨x, y, rfl, hx, hy⟩
  exact go_ret (e_pair (ca_PP (e_a0 (ev_var (i := 0) rfl)) (ev_var (i := 1) rfl) ⟨hx.1, hy⟩) (ca_PP (e_a1 (ev_var (i := 0) rfl)) (ev_var (i := 1) rfl) ⟨hx.2, hy⟩)) fun d e => ⟨x, y, rfl, e⟩
abbrev s_weight : Stmt := topS 36
theorem sc_weight : FnScope ["one"] ["one"] (defScope s_weight) := ⟨rfl, rfl, rfl, by decide +kernel, rfl, by decide +kernel, by decide +kernel⟩
theorem ok_weight (T : IsDef K mg "weight" s_weight) (hp : OkD P w K mg base "plus" 35 ["one", "other"] [] (spPlus K)) (ht : OkD P w K mg base "times" 35 ["one", "other"] [] (spTimes K))  : OkD P w K mg base "weight" 36 ["one"] [] (spWeight K) := by
  refine okP T sc_weight (fun _ _ _ _ _ _ us hl => match us, hl with | [_], _ => rfl) (fun ds ⟨a, e, _⟩ => by rw [e]; rfl) fun cdv A outer s H E hr => ⟨_,
    pss_one (ps_ret (pe_fn hp hr (pa_cons (pe_fn ht hr (pa_cons (pe_ix ix_tup (pv 0) pe_int (fun _ _ => rfl)) (pa_cons (pe_ix ix_tup (pv 0) pe_int (fun _ _ => rfl)) pa_nil))) (pa_cons (pe_fn ht hr (pa_cons (pe_ix ix_tup (pv 0) pe_int (fun _ _ => rfl)) (pa_cons (pe_ix ix_tup (pv 0) pe_int (fun _ _ => rfl)) pa_nil))) pa_nil)))), ?_⟩
  rintro ds ⟨x, rfl, h⟩
  exact go_ret (ca_PP (ca_PP (e_a0 (ev_var (i := 0) rfl)) (e_a0 (ev_var (i := 0) rfl)) ⟨h.a.1, h.a.1⟩) (ca_PP (e_a1 (ev_var (i := 0) rfl)) (e_a1 (ev_var (i := 0) rfl)) ⟨h.a.2, h.a.2⟩) ⟨h.c1, h.c2⟩) fun d e => ⟨x, rfl, e⟩
abbrev s_mate : Stmt := topS 33
theorem sc_mate : FnScope ["one"] ["one"] (defScope s_mate) := ⟨rfl, rfl, rfl, by decide +kernel, rfl, by decide +kernel, by decide +kernel⟩
theorem ok_mate (T : IsDef K mg "mate" s_mate) (hs : OkD P w K mg base "less" 35 ["one", "other"] [] (spLess K)) (hz : mg "ZERO" = some (.ref (ga K "ZERO")) ∧ ∀ H, Dp K H (.ref (ga K "ZERO")) (pd (0, 1))) : OkD P w K mg base "mate" 36 ["one"] [] (spMate K) := by
  refine okP T sc_mate (fun _ _ _ _ _ _ us hl => match us, hl with | [_], _ => rfl) (fun ds ⟨a, e, _⟩ => by rw [e]; rfl) fun cdv A outer s H E hr => ⟨_,
    pss_one (ps_ret (pe_tup (pa_cons (pe_ix ix_tup (pv 0) pe_int (fun _ _ => rfl)) (pa_cons (pe_fn hs hr (pa_cons (pe_glob (v := .ref (ga K "ZERO")) rfl hz.1 rfl) (pa_cons (pe_ix ix_tup (pv 0) pe_int (fun _ _ => rfl)) pa_nil))) pa_nil)))), ?_⟩
  rintro ds ⟨x, rfl, h⟩
  exact go_ret (e_pair (e_a0 (ev_var (i := 0) rfl)) (ca_PP (ev_c hz.2) (e_a1 (ev_var (i := 0) rfl)) ⟨Sz.zero, h.2⟩)) fun d e => ⟨x, rfl, e⟩
abbrev s_made : Stmt := topS 34
theorem sc_made : FnScope ["one", "other", "x", "y", "u", "v"] ["one", "other"] (defScope s_made) := ⟨rfl, rfl, rfl, by decide +kernel, rfl, by decide +kernel, by decide +kernel⟩
theorem ok_made (T : IsDef K mg "made" s_made) (hp : OkD P w K mg base "plus" 35 ["one", "other"] [] (spPlus K)) (ht : OkD P w K mg base "times" 35 ["one", "other"] [] (spTimes K)) (hs : OkD P w K mg base "less" 35 ["one", "other"] [] (spLess K))  : OkD P w K mg base "made" 36 ["one", "other"] [] (spMade K) := by
  refine okP T sc_made (fun _ _ _ _ _ _ us hl => match us, hl with | [_, _], _ => rfl) (fun ds ⟨a, b, e, _⟩ => by rw [e]; rfl) fun cdv A outer s H E hr => ⟨_,
    pss_cons (ps_asg (pv 0) (pg_tup rfl (pgs_cons (pg_name (i := 2) sc_made.nd rfl (.inl rfl)) (pgs_cons (pg_name (i := 3) sc_made.nd rfl (.inl rfl)) pgs_nil)))) (pss_cons (ps_asg (pv 1) (pg_tup rfl (pgs_cons (pg_name (i := 4) sc_made.nd rfl (.inl rfl)) (pgs_cons (pg_name (i := 5) sc_made.nd rfl (.inl rfl)) pgs_nil)))) (pss_one (ps_ret (pe_tup (pa_cons (pe_fn hs hr (pa_cons (pe_fn ht hr (pa_cons (pv 2) (pa_cons (pv 4) pa_nil))) (pa_cons (pe_fn ht hr (pa_cons (pv 3) (pa_cons (pv 5) pa_nil))) pa_nil))) (pa_cons (pe_fn hp hr (pa_cons (pe_fn ht hr (pa_cons (pv 2) (pa_cons (pv 5) pa_nil))) (pa_cons (pe_fn ht hr (pa_cons (pv 3) (pa_cons (pv 4) pa_nil))) pa_nil))) pa_nil)))))), ?_⟩
  rintro ds ⟨x, y, rfl, h⟩
  refine go_seq (N1 := fun ms => ms = [.d (ad x), .d (ad y), .d (pd x.1), .d (pd x.2), .no, .no]) (go_asg (ev_var (i := 0) rfl) fun d e => ⟨_, by subst e; exact tg_tup2, rfl⟩) ?_
  rintro ms rfl
  refine go_seq (N1 := fun ms => ms = [.d (ad x), .d (ad y), .d (pd x.1), .d (pd x.2), .d (pd y.1), .d (pd y.2)]) (go_asg (ev_var (i := 1) rfl) fun d e => ⟨_, by subst e; exact tg_tup2, rfl⟩) ?_
  rintro ms rfl
  exact go_ret (e_pair (ca_PP (ca_PP (ev_var (i := 2) rfl) (ev_var (i := 4) rfl) ⟨h.a.1, h.b.1⟩) (ca_PP (ev_var (i := 3) rfl) (ev_var (i := 5) rfl) ⟨h.a.2, h.b.2⟩) ⟨h.c1, h.c2⟩) (ca_PP (ca_PP (ev_var (i := 2) rfl) (ev_var (i := 5) rfl) ⟨h.a.1, h.b.2⟩) (ca_PP (ev_var (i := 3) rfl) (ev_var (i := 4) rfl) ⟨h.a.2, h.b.1⟩) ⟨h.c3, h.c4⟩)) fun d e => ⟨x, y, rfl, e⟩
abbrev s_l_plus : Stmt := topS 50
theorem sc_l_plus : FnScope ["_law_one", "_law_other"] ["_law_one", "_law_other"] (defScope s_l_plus) := ⟨rfl, rfl, rfl, by decide +kernel, rfl, by decide +kernel, by decide +kernel⟩
theorem ok_l_plus (T : IsDef K mg "_law_plus" s_l_plus) (hl : OkD P w K mg base "_law_low" 34 ["_law_above", "_law_beneath"] [] (spLow K))  : OkD P w K mg base "_law_plus" 35 ["_law_one", "_law_other"] [] (spPlus K) := by
  refine okP T sc_l_plus (fun _ _ _ _ _ _ us hl => match us, hl with | [_, _], _ => rfl) (fun ds ⟨a, b, e, _⟩ => by rw [e]; rfl) fun cdv A outer s H E hr => ⟨_,
    pss_one (ps_ret (pe_fn hl hr (pa_cons (pe_op op_add (pe_op op_mulW (pe_ix ix_tup (pv 0) pe_int (fun _ _ => rfl)) (pe_ix ix_tup (pv 1) pe_int (fun _ _ => rfl))) (pe_op op_mulW (pe_ix ix_tup (pv 1) pe_int (fun _ _ => rfl)) (pe_ix ix_tup (pv 0) pe_int (fun _ _ => rfl)))) (pa_cons (pe_op op_mulW (pe_ix ix_tup (pv 0) pe_int (fun _ _ => rfl)) (pe_ix ix_tup (pv 1) pe_int (fun _ _ => rfl))) pa_nil)))), ?_⟩
  rintro ds ⟨x, y, rfl, hx, hy⟩
  exact go_ret (ca_II (e_add (e_mulW (e_p0 (ev_var (i := 0) rfl)) (e_p1 (ev_var (i := 1) rfl)) hx.1 hy.2.1) (e_mulW (e_p0 (ev_var (i := 1) rfl)) (e_p1 (ev_var (i := 0) rfl)) hy.1 hx.2.1)) (e_mulW (e_p1 (ev_var (i := 0) rfl)) (e_p1 (ev_var (i := 1) rfl)) hx.2.1 hy.2.1) (under_ne hx hy)) fun d e => ⟨x, y, rfl, e⟩
abbrev s_l_less : Stmt := topS 46
theorem sc_l_less : FnScope ["_law_one", "_law_other"] ["_law_one", "_law_other"] (defScope s_l_less) := ⟨rfl, rfl, rfl, by decide +kernel, rfl, by decide +kernel, by decide +kernel⟩
theorem ok_l_less (T : IsDef K mg "_law_less" s_l_less) (hl : OkD P w K mg base "_law_low" 34 ["_law_above", "_law_beneath"] [] (spLow K))  : OkD P w K mg base "_law_less" 35 ["_law_one", "_law_other"] [] (spLess K) := by
  refine okP T sc_l_less (fun _ _ _ _ _ _ us hl => match us, hl with | [_, _], _ => rfl) (fun ds ⟨a, b, e, _⟩ => by rw [e]; rfl) fun cdv A outer s H E hr => ⟨_,
    pss_one (ps_ret (pe_fn hl hr (pa_cons (pe_op op_sub (pe_op op_mulW (pe_ix ix_tup (pv 0) pe_int (fun _ _ => rfl)) (pe_ix ix_tup (pv 1) pe_int (fun _ _ => rfl))) (pe_op op_mulW (pe_ix ix_tup (pv 1) pe_int (fun _ _ => rfl)) (pe_ix ix_tup (pv 0) pe_int (fun _ _ => rfl)))) (pa_cons (pe_op op_mulW (pe_ix ix_tup (pv 0) pe_int (fun _ _ => rfl)) (pe_ix ix_tup (pv 1) pe_int (fun _ _ => rfl))) pa_nil)))), ?_⟩
  rintro ds ⟨x, y, rfl, hx, hy⟩
  exact go_ret (ca_II (e_sub (e_mulW (e_p0 (ev_var (i := 0) rfl)) (e_p1 (ev_var (i := 1) rfl)) hx.1 hy.2.1) (e_mulW (e_p0 (ev_var (i := 1) rfl)) (e_p1 (ev_var (i := 0) rfl)) hy.1 hx.2.1)) (e_mulW (e_p1 (ev_var (i := 0) rfl)) (e_p1 (ev_var (i := 1) rfl)) hx.2.1 hy.2.1) (under_ne hx hy)) fun d e => ⟨x, y, rfl, e⟩
abbrev s_l_times : Stmt := topS 48
theorem sc_l_times : FnScope ["_law_one", "_law_other"] ["_law_one", "_law_other"] (defScope s_l_times) := ⟨rfl, rfl, rfl, by decide +kernel, rfl, by decide +kernel, by decide +kernel⟩
theorem ok_l_times (T : IsDef K mg "_law_by" s_l_times) (hl : OkD P w K mg base "_law_low" 34 ["_law_above", "_law_beneath"] [] (spLow K))  : OkD P w K mg base "_law_by" 35 ["_law_one", "_law_other"] [] (spTimes K) := by
  refine okP T sc_l_times (fun _ _ _ _ _ _ us hl => match us, hl with | [_, _], _ => rfl) (fun ds ⟨a, b, e, _⟩ => by rw [e]; rfl) fun cdv A outer s H E hr => ⟨_,
    pss_one (ps_ret (pe_fn hl hr (pa_cons (pe_op op_mulW (pe_ix ix_tup (pv 0) pe_int (fun _ _ => rfl)) (pe_ix ix_tup (pv 1) pe_int (fun _ _ => rfl))) (pa_cons (pe_op op_mulW (pe_ix ix_tup (pv 0) pe_int (fun _ _ => rfl)) (pe_ix ix_tup (pv 1) pe_int (fun _ _ => rfl))) pa_nil)))), ?_⟩
  rintro ds ⟨x, y, rfl, hx, hy⟩
  exact go_ret (ca_II (e_mulW (e_p0 (ev_var (i := 0) rfl)) (e_p0 (ev_var (i := 1) rfl)) hx.1 hy.1) (e_mulW (e_p1 (ev_var (i := 0) rfl)) (e_p1 (ev_var (i := 1) rfl)) hx.2.1 hy.2.1) (under_ne hx hy)) fun d e => ⟨x, y, rfl, e⟩
abbrev s_l_over : Stmt := topS 55
theorem sc_l_over : FnScope ["_law_one", "_law_other"] ["_law_one", "_law_other"] (defScope s_l_over) := ⟨rfl, rfl, rfl, by decide +kernel, rfl, by decide +kernel, by decide +kernel⟩
theorem ok_l_over (T : IsDef K mg "_law_per" s_l_over) (hl : OkD P w K mg base "_law_low" 34 ["_law_above", "_law_beneath"] [] (spLow K))  : OkD P w K mg base "_law_per" 35 ["_law_one", "_law_other"] [] (spOver K) := by
  refine okP T sc_l_over (fun _ _ _ _ _ _ us hl => match us, hl with | [_, _], _ => rfl) (fun ds ⟨a, b, e, _⟩ => by rw [e]; rfl) fun cdv A outer s H E hr => ⟨_,
    pss_one (ps_ret (pe_fn hl hr (pa_cons (pe_op op_mulW (pe_ix ix_tup (pv 0) pe_int (fun _ _ => rfl)) (pe_ix ix_tup (pv 1) pe_int (fun _ _ => rfl))) (pa_cons (pe_op op_mulW (pe_ix ix_tup (pv 0) pe_int (fun _ _ => rfl)) (pe_ix ix_tup (pv 1) pe_int (fun _ _ => rfl))) pa_nil)))), ?_⟩
  rintro ds ⟨x, y, rfl, hx, hy, hn⟩
  exact go_ret (ca_II (e_mulW (e_p0 (ev_var (i := 0) rfl)) (e_p1 (ev_var (i := 1) rfl)) hx.1 hy.2.1) (e_mulW (e_p1 (ev_var (i := 0) rfl)) (e_p0 (ev_var (i := 1) rfl)) hx.2.1 hy.1) (Int.mul_ne_zero (Int.ne_of_gt hx.2.2) hn)) fun d e => ⟨x, y, rfl, e⟩
abbrev s_l_summed : Stmt := topS 52
theorem sc_l_summed : FnScope ["_law_one", "_law_other"] ["_law_one", "_law_other"] (defScope s_l_summed) := ⟨rfl, rfl, rfl, by decide +kernel, rfl, by decide +kernel, by decide +kernel⟩
theorem ok_l_summed (T : IsDef K mg "_law_sum" s_l_summed) (hp : OkD P w K mg base "_law_plus" 35 ["_law_one", "_law_other"] [] (spPlus K))  : OkD P w K mg base "_law_sum" 36 ["_law_one", "_law_other"] [] (spSummed K) := by
  refine okP T sc_l_summed (fun _ _ _ _ _ _ us hl => match us, hl with | [_, _], _ => rfl) (fun ds ⟨a, b, e, _⟩ => by rw [e]; rfl) fun cdv A outer s H E hr => ⟨_,
    pss_one (ps_ret (pe_tup (pa_cons (pe_fn hp hr (pa_cons (pe_ix ix_tup (pv 0) pe_int (fun _ _ => rfl)) (pa_cons (pe_ix ix_tup (pv 1) pe_int (fun _ _ => rfl)) pa_nil))) (pa_cons (pe_fn hp hr (pa_cons (pe_ix ix_tup (pv 0) pe_int (fun _ _ => rfl)) (pa_cons (pe_ix ix_tup (pv 1) pe_int (fun _ _ => rfl)) pa_nil))) pa_nil)))), ?_⟩
  rintro ds ⟨x, y, rfl, hx, hy⟩
  exact go_ret (e_pair (ca_PP (e_a0 (ev_var (i := 0) rfl)) (e_a0 (ev_var (i := 1) rfl)) ⟨hx.1, hy.1⟩) (ca_PP (e_a1 (ev_var (i := 0) rfl)) (e_a1 (ev_var (i := 1) rfl)) ⟨hx.2, hy.2⟩)) fun d e => ⟨x, y, rfl, e⟩
abbrev s_l_off : Stmt := topS 47
theorem sc_l_off : FnScope ["_law_one", "_law_other"] ["_law_one", "_law_other"] (defScope s_l_off) := ⟨rfl, rfl, rfl, by decide +kernel, rfl, by decide +kernel, by decide +kernel⟩
theorem ok_l_off (T : IsDef K mg "_law_off" s_l_off) (hs : OkD P w K mg base "_law_less" 35 ["_law_one", "_law_other"] [] (spLess K))  : OkD P w K mg base "_law_off" 36 ["_law_one", "_law_other"] [] (spOff K) := by
  refine okP T sc_l_off (fun _ _ _ _ _ _ us hl => match us, hl with | [_, _], _ => rfl) (fun ds ⟨a, b, e, _⟩ => by rw [e]; rfl) fun cdv A outer s H E hr => ⟨_,
    pss_one (ps_ret (pe_tup (pa_cons (pe_fn hs hr (pa_cons (pe_ix ix_tup (pv 0) pe_int (fun _ _ => rfl)) (pa_cons (pe_ix ix_tup (pv 1) pe_int (fun _ _ => rfl)) pa_nil))) (pa_cons (pe_fn hs hr (pa_cons (pe_ix ix_tup (pv 0) pe_int (fun _ _ => rfl)) (pa_cons (pe_ix ix_tup (pv 1) pe_int (fun _ _ => rfl)) pa_nil))) pa_nil)))), ?_⟩
  rintro ds ⟨x, y, rfl, hx, hy⟩
  exact go_ret (e_pair (ca_PP (e_a0 (ev_var (i := 0) rfl)) (e_a0 (ev_var (i := 1) rfl)) ⟨hx.1, hy.1⟩) (ca_PP (e_a1 (ev_var (i := 0) rfl)) (e_a1 (ev_var (i := 1) rfl)) ⟨hx.2, hy.2⟩)) fun d e => ⟨x, y, rfl, e⟩
abbrev s_l_often : Stmt := topS 49
theorem sc_l_often : FnScope ["_law_one", "_law_many"] ["_law_one", "_law_many"] (defScope s_l_often) := ⟨rfl, rfl, rfl, by decide +kernel, rfl, by decide +kernel, by decide +kernel⟩
theorem ok_l_often (T : IsDef K mg "_law_often" s_l_often) (ht : OkD P w K mg base "_law_by" 35 ["_law_one", "_law_other"] [] (spTimes K))  : OkD P w K mg base "_law_often" 36 ["_law_one", "_law_many"] [] (spOften K) := by
  refine okP T sc_l_often (fun _ _ _ _ _ _ us hl => match us, hl with | [_, _], _ => rfl) (fun ds ⟨a, b, e, _⟩ => by rw [e]; rfl) fun cdv A outer s H E hr => ⟨_,
    pss_one (ps_ret (pe_tup (pa_cons (pe_fn ht hr (pa_cons (pe_ix ix_tup (pv 0) pe_int (fun _ _ => rfl)) (pa_cons (pv 1) pa_nil))) (pa_cons (pe_fn ht hr (pa_cons (pe_ix ix_tup (pv 0) pe_int (fun _ _ => rfl)) (pa_cons (pv 1) pa_nil))) pa_nil)))), ?_⟩
  rintro ds ⟨x, y, rfl, hx, hy⟩
  exact go_ret (e_pair (ca_PP (e_a0 (ev_var (i := 0) rfl)) (ev_var (i := 1) rfl) ⟨hx.1, hy⟩) (ca_PP (e_a1 (ev_var (i := 0) rfl)) (ev_var (i := 1) rfl) ⟨hx.2, hy⟩)) fun d e => ⟨x, y, rfl, e⟩
abbrev s_l_weight : Stmt := topS 51
theorem sc_l_weight : FnScope ["_law_one"] ["_law_one"] (defScope s_l_weight) := ⟨rfl, rfl, rfl, by decide +kernel, rfl, by decide +kernel, by decide +kernel⟩
theorem ok_l_weight (T : IsDef K mg "_law_weight" s_l_weight) (hp : OkD P w K mg base "_law_plus" 35 ["_law_one", "_law_other"] [] (spPlus K)) (ht : OkD P w K mg base "_law_by" 35 ["_law_one", "_law_other"] [] (spTimes K))  : OkD P w K mg base "_law_weight" 36 ["_law_one"] [] (spWeight K) := by
  refine okP T sc_l_weight (fun _ _ _ _ _ _ us hl => match us, hl with | [_], _ => rfl) (fun ds ⟨a, e, _⟩ => by rw [e]; rfl) fun cdv A outer s H E hr => ⟨_,
    pss_one (ps_ret (pe_fn hp hr (pa_cons (pe_fn ht hr (pa_cons (pe_ix ix_tup (pv 0) pe_int (fun _ _ => rfl)) (pa_cons (pe_ix ix_tup (pv 0) pe_int (fun _ _ => rfl)) pa_nil))) (pa_cons (pe_fn ht hr (pa_cons (pe_ix ix_tup (pv 0) pe_int (fun _ _ => rfl)) (pa_cons (pe_ix ix_tup (pv 0) pe_int (fun _ _ => rfl)) pa_nil))) pa_nil)))), ?_⟩
  rintro ds ⟨x, rfl, h⟩
  exact go_ret (ca_PP (ca_PP (e_a0 (ev_var (i := 0) rfl)) (e_a0 (ev_var (i := 0) rfl)) ⟨h.a.1, h.a.1⟩) (ca_PP (e_a1 (ev_var (i := 0) rfl)) (e_a1 (ev_var (i := 0) rfl)) ⟨h.a.2, h.a.2⟩) ⟨h.c1, h.c2⟩) fun d e => ⟨x, rfl, e⟩
abbrev s_l_mate : Stmt := topS 54
theorem sc_l_mate : FnScope ["_law_one"] ["_law_one"] (defScope s_l_mate) := ⟨rfl, rfl, rfl, by decide +kernel, rfl, by decide +kernel, by decide +kernel⟩
theorem ok_l_mate (T : IsDef K mg "_law_mate" s_l_mate)   : OkD P w K mg base "_law_mate" 36 ["_law_one"] [] (spMateL K) := by
  refine okP T sc_l_mate (fun _ _ _ _ _ _ us hl => match us, hl with | [_], _ => rfl) (fun ds ⟨a, e, _⟩ => by rw [e]; rfl) fun cdv A outer s H E hr => ⟨_,
    pss_one (ps_ret (pe_tup (pa_cons (pe_ix ix_tup (pv 0) pe_int (fun _ _ => rfl)) (pa_cons (pe_tup (pa_cons (pe_op op_sub pe_int (pe_ix ix_tup (pe_ix ix_tup (pv 0) pe_int (fun _ _ => rfl)) pe_int (fun _ _ => rfl))) (pa_cons (pe_ix ix_tup (pe_ix ix_tup (pv 0) pe_int (fun _ _ => rfl)) pe_int (fun _ _ => rfl)) pa_nil))) pa_nil)))), ?_⟩
  rintro ds ⟨x, rfl, h⟩
  exact go_ret (e_pair (e_a0 (ev_var (i := 0) rfl)) (e_pair (e_sub ev_int (e_p0 (e_a1 (ev_var (i := 0) rfl)))) (e_p1 (e_a1 (ev_var (i := 0) rfl))))) fun d e => ⟨x, rfl, e⟩
abbrev s_l_made : Stmt := topS 53
theorem sc_l_made : FnScope ["_law_one", "_law_other", "_law_x"] ["_law_one", "_law_other"] (defScope s_l_made) := ⟨rfl, rfl, rfl, by decide +kernel, rfl, by decide +kernel, by decide +kernel⟩
theorem ok_l_made (T : IsDef K mg "_law_made" s_l_made) (hp : OkD P w K mg base "_law_plus" 35 ["_law_one", "_law_other"] [] (spPlus K)) (ht : OkD P w K mg base "_law_by" 35 ["_law_one", "_law_other"] [] (spTimes K)) (hs : OkD P w K mg base "_law_less" 35 ["_law_one", "_law_other"] [] (spLess K))  : OkD P w K mg base "_law_made" 36 ["_law_one", "_law_other"] [] (spMade K) := by
  refine okP T sc_l_made (fun _ _ _ _ _ _ us hl => match us, hl with | [_, _], _ => rfl) (fun ds ⟨a, b, e, _⟩ => by rw [e]; rfl) fun cdv A outer s H E hr => ⟨_,
    pss_cons (ps_set (i := 2) sc_l_made.nd rfl (.inl rfl) (pe_fn hs hr (pa_cons (pe_fn ht hr (pa_cons (pe_ix ix_tup (pv 0) pe_int (fun _ _ => rfl)) (pa_cons (pe_ix ix_tup (pv 1) pe_int (fun _ _ => rfl)) pa_nil))) (pa_cons (pe_fn ht hr (pa_cons (pe_ix ix_tup (pv 0) pe_int (fun _ _ => rfl)) (pa_cons (pe_ix ix_tup (pv 1) pe_int (fun _ _ => rfl)) pa_nil))) pa_nil)))) (pss_one (ps_ret (pe_tup (pa_cons (pv 2) (pa_cons (pe_fn hp hr (pa_cons (pe_fn ht hr (pa_cons (pe_ix ix_tup (pv 0) pe_int (fun _ _ => rfl)) (pa_cons (pe_ix ix_tup (pv 1) pe_int (fun _ _ => rfl)) pa_nil))) (pa_cons (pe_fn ht hr (pa_cons (pe_ix ix_tup (pv 0) pe_int (fun _ _ => rfl)) (pa_cons (pe_ix ix_tup (pv 1) pe_int (fun _ _ => rfl)) pa_nil))) pa_nil))) pa_nil))))), ?_⟩
  rintro ds ⟨x, y, rfl, h⟩
  refine go_seq (N1 := fun ms => ms = [.d (ad x), .d (ad y), .d (pd (made x y).1)]) (go_set (ca_PP (ca_PP (e_a0 (ev_var (i := 0) rfl)) (e_a0 (ev_var (i := 1) rfl)) ⟨h.a.1, h.b.1⟩) (ca_PP (e_a1 (ev_var (i := 0) rfl)) (e_a1 (ev_var (i := 1) rfl)) ⟨h.a.2, h.b.2⟩) ⟨h.c1, h.c2⟩) fun d e => by rw [e]; rfl) ?_
  rintro ms rfl
  exact go_ret (e_pair (ev_var (i := 2) rfl) (ca_PP (ca_PP (e_a0 (ev_var (i := 0) rfl)) (e_a1 (ev_var (i := 1) rfl)) ⟨h.a.1, h.b.2⟩) (ca_PP (e_a1 (ev_var (i := 0) rfl)) (e_a0 (ev_var (i := 1) rfl)) ⟨h.a.2, h.b.1⟩) ⟨h.c3, h.c4⟩)) fun d e => ⟨x, y, rfl, e⟩
end
end Ct
namespace Ct
open PySem PySem.Spec PyProof.Rows L2 He

def ld (zs : List A2) : PyData := .list (zs.map ad)
theorem map_inj {α β : Type} {f : α → β} (hf : ∀ a b, f a = f b → a = b) : ∀ {xs ys : List α}, xs.map f = ys.map f → xs = ys
  | [], [], _ => rfl
  | [], y :: ys, h => by cases h
  | x :: xs, [], h => by cases h
  | x :: xs, y :: ys, h => by
    rw [List.map_cons, List.map_cons] at h
    injection h with h1 h2
    rw [hf _ _ h1, map_inj hf h2]
theorem ld_inj {xs ys : List A2} (h : ld xs = ld ys) : xs = ys := by
  unfold ld at h
  injection h with h
  exact map_inj (fun _ _ => ad_inj) h
abbrev SpX {α : Type} (K : PySem.W.Frag) (A : α → List PyData) (c : α → Prop) (f : α → PyData) : Sp := SpP K (fun ds => ∃ a, ds = A a ∧ c a) (fun ds r => ∃ a, ds = A a ∧ r = f a)
section
variable {K : PySem.W.Frag} {ms : List Slot} {ta tb te : TE} {al ar : TA}
theorem ca_X {α : Type} {A : α → List PyData} {c : α → Prop} {f : α → PyData} (inj : ∀ a b, A a = A b → a = b) {a : α} (ha : EvA K al ms (· = A a)) (h : c a) : Ev K (tCall (SpX K A c f) [] E0 al) ms (· = f a) :=
  ev_call ha fun ds e => by subst e; exact ⟨⟨a, rfl, h⟩, fun r ⟨b, e, hr⟩ => by rw [inj _ _ e]; exact hr⟩
def aLI (a : List A2 × Int) : List PyData := [ld a.1, .int a.2]
theorem aLI_inj (a b : List A2 × Int) (h : aLI a = aLI b) : a = b := by
  unfold aLI at h
  injection h with h1 h2
  injection h2 with h2 _
  injection h2 with h2
  exact Prod.ext (ld_inj h1) h2
def aLP (a : List A2 × Q2) : List PyData := [ld a.1, pd a.2]
theorem aLP_inj (a b : List A2 × Q2) (h : aLP a = aLP b) : a = b := by
  unfold aLP at h
  injection h with h1 h2
  injection h2 with h2 _
  exact Prod.ext (ld_inj h1) (pd_inj h2)
theorem atI_pos {α : Type} {xs : List α} {i : Int} {v : α} (h0 : 0 ≤ i) (h : xs[i.toNat]? = some v) : atI xs i = some v := by
  have e : i = (i.toNat : Int) := by omega
  rw [e]
  exact atI_nat h
theorem ent_in {row : List A2} {k : Int} (h0 : 0 ≤ k) (h1 : k < row.length) : (row.map ad)[k.toNat]? = some (ad (ent row k)) := by
  have hl : k.toNat < row.length := by omega
  unfold ent
  rw [if_pos ⟨h0, h1⟩, List.getElem?_map, List.getElem?_eq_getElem hl, List.getD_eq_getElem?_getD, List.getElem?_eq_getElem hl]
  rfl
theorem ent_out {row : List A2} {k : Int} (h : ¬ (0 ≤ k ∧ k < row.length)) : ent row k = org := if_neg h
abbrev tLen (K : PySem.W.Frag) (al : TA) : TE := tCB (fun xs H Q => ∃ p ys, xs = [.ref p] ∧ (SqL K H p ys ∨ SqT K H p ys) ∧ Q (.int ys.length) H) al
theorem e_len {xs : List PyData} (h : Ev K te ms (· = .list xs)) : Ev K (tLen K (tCons te tNil)) ms (· = .int (xs.length : Int)) := ev_len (ea_1 h) fun ds e => ⟨xs, .inl e, rfl⟩
theorem e_lenL {xs : List A2} (h : Ev K te ms (· = ld xs)) : Ev K (tLen K (tCons te tNil)) ms (· = .int (xs.length : Int)) := by
  have q := e_len (xs := xs.map ad) h
  rwa [List.length_map] at q
theorem e_mod2 {a : Int} (h : Ev K te ms (· = .int a)) : Ev K (tOp (rI (fun _ j => 0 < j) fun i j => .int (i % j)) te (tC (.int 2))) ms (· = .int (a % 2)) :=
  ev_I h ev_int fun d1 d2 e1 e2 => ⟨a, 2, e1, e2, by decide, rfl⟩
end
/-- a constant of the module -/
def Con1 (K : PySem.W.Frag) (mg : Str → Option Value) (x : Str) (d : PyData) : Prop := mg x = some (.ref (ga K x)) ∧ ∀ H, Dp K H (.ref (ga K x)) d
theorem pe_con1 {X : Cx} {x : Str} {d : PyData} {pos : Pos} (h : Con1 X.K X.mg x d) (hg : Gl X x := by rfl) (hd : (x == ("__debug__" : Str)) = false := by decide) : PE X (.Name x pos) (tC (.ref (ga X.K x))) := pe_glob hg h.1 rfl hd
abbrev spEnt (K : PySem.W.Frag) : Sp := SpX K aLI (fun _ => True) fun a => ad (ent a.1 a.2)
section
variable {P : Program} {w : World} {K : PySem.W.Frag} {mg : Str → Option Value} {base : Heap}
abbrev s_entry : Stmt := topS 38
theorem sc_entry : FnScope ["row", "at"] ["row", "at"] (defScope s_entry) := ⟨rfl, rfl, rfl, by decide +kernel, rfl, by decide +kernel, by decide +kernel⟩
abbrev s_l_at : Stmt := topS 56
theorem sc_l_at : FnScope ["_law_row", "_law_spot_here"] ["_law_row", "_law_spot_here"] (defScope s_l_at) := ⟨rfl, rfl, rfl, by decide +kernel, rfl, by decide +kernel, by decide +kernel⟩
theorem e_chain {ms : List Slot} {ta tb tc : TE} {i j k : Int} (ha : Ev K ta ms (· = .int i)) (hb : Ev K tb ms (· = .int j)) (hc : Ev K tc ms (· = .int k)) :
    Ev K (tChain (rI0 fun i j => .bl (decide (i ≤ j))) (rI0 fun i j => .bl (decide (i < j))) ta tb tc) ms (· = .bool (decide (i ≤ j) && decide (j < k))) :=
  ev_chainLL ha hb hc (fun d1 d2 d3 e1 e2 e3 => ⟨i, j, k, e1, e2, e3, rfl⟩) ⟨_, rfl⟩
theorem e_ent {ms : List Slot} {row : List A2} {k : Int} {i j : Nat} {tz : TE} (h1 : ms[i]? = some (.d (ld row))) (h2 : ms[j]? = some (.d (.int k))) (hz : Ev K tz ms (· = ad org)) :
    Ev K (tIf (tTest (tChain (rI0 fun i j => .bl (decide (i ≤ j))) (rI0 fun i j => .bl (decide (i < j))) (tC (.int 0)) (tVar j) (tLen K (tCons (tVar i) tNil)))) (tOp (rIxL K) (tVar i) (tVar j)) tz) ms (· = ad (ent row k)) := by
  refine ev_if (t_test (e_chain ev_int (ev_var h2) (e_lenL (ev_var h1)))) (fun z => ?_) fun z => ?_
  · obtain ⟨z1, z2⟩ := Bool.and_eq_true_iff.mp z.symm
    have z1 := of_decide_eq_true z1
    have z2 := of_decide_eq_true z2
    exact ev_ixL (ev_var h1) (ev_var h2) fun d1 d2 e1 e2 => ⟨_, k, _, e1, e2, atI_pos z1 (ent_in z1 z2), rfl⟩
  · rw [ent_out (k := k) (row := row) fun hh => by
      rw [decide_eq_true hh.1, decide_eq_true hh.2] at z
      cases z]
    exact hz
theorem ok_entry (T : IsDef K mg "entry" s_entry) (ml : mg "len" = none) (ho : Con1 K mg "ORIGIN" (ad org)) : OkD P w K mg base "entry" 34 ["row", "at"] [] (spEnt K) := by
  refine okP T sc_entry (fun _ _ _ _ _ _ us hl => match us, hl with | [_, _], _ => rfl) (fun ds ⟨a, e, _⟩ => by rw [e]; rfl) fun cdv A outer s H E hr => ⟨_,
    pss_one (ps_ret (pe_ifExp (pt_chain op_le op_lt pe_int (pv 1) (pe_callB call_len_seq (by rfl) ml PySem.boot_len (pa_cons (pv 0) pa_nil))) (pe_ix ix_list (pv 0) (pv 1) (fun _ _ => rfl)) (pe_con1 ho))), ?_⟩
  rintro ds ⟨⟨row, k⟩, rfl, _⟩
  exact go_ret (e_ent (row := row) (k := k) rfl rfl (ev_c ho.2)) fun d e => ⟨(row, k), rfl, e⟩
theorem e_zero2 {ms : List Slot} : Ev K (tTup (tCons (tTup (tCons (tC (.int 0)) (tCons (tC (.int 1)) tNil))) (tCons (tTup (tCons (tC (.int 0)) (tCons (tC (.int 1)) tNil))) tNil))) ms (· = ad org) := e_pair (e_pair ev_int ev_int) (e_pair ev_int ev_int)
theorem ok_l_at (T : IsDef K mg "_law_at" s_l_at) (ml : mg "len" = none) : OkD P w K mg base "_law_at" 34 ["_law_row", "_law_spot_here"] [] (spEnt K) := by
  refine okP T sc_l_at (fun _ _ _ _ _ _ us hl => match us, hl with | [_, _], _ => rfl) (fun ds ⟨a, e, _⟩ => by rw [e]; rfl) fun cdv A outer s H E hr => ⟨_,
    pss_one (ps_ret (pe_ifExp (pt_chain op_le op_lt pe_int (pv 1) (pe_callB call_len_seq (by rfl) ml PySem.boot_len (pa_cons (pv 0) pa_nil))) (pe_ix ix_list (pv 0) (pv 1) (fun _ _ => rfl))
      (pe_tup (pa_cons (pe_tup (pa_cons pe_int (pa_cons pe_int pa_nil))) (pa_cons (pe_tup (pa_cons pe_int (pa_cons pe_int pa_nil))) pa_nil))))), ?_⟩
  rintro ds ⟨⟨row, k⟩, rfl, _⟩
  exact go_ret (e_ent (row := row) (k := k) rfl rfl e_zero2) fun d e => ⟨(row, k), rfl, e⟩
/-! ### rest_by -/
abbrev s_rest : Stmt := topS 39
theorem sc_rest : FnScope ["row", "heavy", "found", "worth", "at", "one"] ["row", "heavy"] (defScope s_rest) := ⟨rfl, rfl, rfl, by decide +kernel, rfl, by decide +kernel, by decide +kernel⟩
abbrev spRest (K : PySem.W.Frag) : Sp := SpX K aLP (fun a => SzR a.2 a.1 0 r0) fun a => .list [ad (restP a.2 a.1).1, ad (restP a.2 a.1).2]
theorem ok_rest (T : IsDef K mg "rest_by" s_rest) (me : mg "enumerate" = none) (ho : Con1 K mg "ORIGIN" (ad org)) (h1 : Con1 K mg "ONE" (pd (1, 1))) (hz : Con1 K mg "ZERO" (pd (0, 1)))
    (hs : OkD P w K mg base "summed" 36 ["one", "other"] [] (spSummed K)) (hf : OkD P w K mg base "often" 36 ["one", "many"] [] (spOften K)) (hl : OkD P w K mg base "less" 35 ["one", "other"] [] (spLess K)) (ht : OkD P w K mg base "times" 35 ["one", "other"] [] (spTimes K)) :
    OkD P w K mg base "rest_by" 37 ["row", "heavy"] [] (spRest K) := by
  refine okP T sc_rest (fun _ _ _ _ _ _ us hl => match us, hl with | [_, _], _ => rfl) (fun ds ⟨a, e, _⟩ => by rw [e]; rfl) fun cdv A outer s H E hr => ⟨_,
    pss_cons (ps_set (i := 2) sc_rest.nd rfl (.inl rfl) (pe_lst (pa_cons (pe_con1 ho) (pa_cons (pe_con1 ho) pa_nil))))
    (pss_cons (ps_set (i := 3) sc_rest.nd rfl (.inl rfl) (pe_con1 h1))
    (pss_cons (ps_for PassesOwn.never rfl (pi_enum (by rfl) me (pa_cons (pv 0) pa_nil)) (pg_tup rfl (pgs_cons (pg_name (i := 4) sc_rest.nd rfl (.inl rfl)) (pgs_cons (pg_name (i := 5) sc_rest.nd rfl (.inl rfl)) pgs_nil)))
      (pss_cons (ps_asg (pe_fn hs hr (pa_cons (pe_ix ix_list (pv 2) (pe_op op_mod (pv 4) pe_int) (fun _ _ => rfl)) (pa_cons (pe_fn hf hr (pa_cons (pv 5) (pa_cons (pv 3) pa_nil))) pa_nil))) (pg_sub (pv 2) (pe_op op_mod (pv 4) pe_int) set_list))
      (pss_one (ps_if (pt_cmpR op_eq (pe_op op_mod (pv 4) pe_int) pe_int (nomark _)) (pss_one (ps_set (i := 3) sc_rest.nd rfl (.inl rfl) (pe_fn hl (hr.mono (by decide)) (pa_cons (pe_con1 hz) (pa_cons (pe_fn ht (hr.mono (by decide)) (pa_cons (pv 3) (pa_cons (pv 1) pa_nil))) pa_nil))))) pss_nil))))
    (pss_one (ps_ret (pv 2))))), ?_⟩
  rintro ds ⟨⟨row, h⟩, rfl, hsz⟩
  have hsz : SzR h row 0 r0 := hsz
  refine go_seq (N1 := fun ms => ms = [.d (ld row), .d (pd h), .own [ad org, ad org], .no, .no, .no]) (go_setO (en_lst (ea_2 (ev_c ho.2) (ev_c ho.2)) fun ds e => by rw [e]; decide) fun ds e => by rw [e]; rfl) ?_
  rintro ms rfl
  refine go_seq (N1 := fun ms => ms = [.d (ld row), .d (pd h), .own [ad org, ad org], .d (pd (1, 1)), .no, .no]) (go_set (ev_c h1.2) fun d e => by rw [e]; rfl) ?_
  rintro ms rfl
  refine go_seq (N1 := fun ms => ∃ x y, ms = [.d (ld row), .d (pd h), .own [ad (restP h row).1, ad (restP h row).2], .d (pd (rGo h row 0 r0).w), x, y]) (go_forE (ea_1 (ev_var (i := 0) rfl)) fun d e => ⟨row.map ad,
    fun i ms => ∃ s x y, ms = [.d (ld row), .d (pd h), .own [ad s.f0, ad s.f1], .d (pd s.w), x, y] ∧ rGo h (row.drop i) i s = rGo h row 0 r0 ∧ SzR h (row.drop i) i s, e, ⟨r0, .no, .no, rfl, rfl, hsz⟩, ?_, ?_⟩) ?_
  · rintro i x ms1 hi ⟨st, x1, y1, rfl, hg, hz⟩
    have hl : i < row.length := by
      have := (List.getElem?_eq_some_iff.mp hi).1
      simpa using this
    have ex : x = ad row[i] := by
      rw [List.getElem?_map, List.getElem?_eq_getElem hl] at hi
      exact (Option.some.inj hi).symm
    subst ex
    have ed : row.drop i = row[i] :: row.drop (i + 1) := List.drop_eq_getElem_cons hl
    rw [ed] at hg hz
    obtain ⟨a1, a2, a3, a4, a5, a6, a7, a8⟩ := hz
    refine ⟨_, tg_tup2, ?_⟩
    by_cases hm : i % 2 = 0
    · have em : ((i : Int) % 2) = 0 := by omega
      have es : rStep h st i row[i] = ⟨summed st.f0 (often row[i] st.w), st.f1, st.w⟩ := if_pos hm
      rw [es] at a8
      have hg : rGo h (row.drop (i + 1)) (i + 1) (rStep h st i row[i]) = rGo h row 0 r0 := hg
      rw [es] at hg
      refine go_seq (N1 := fun ms => ms = [.d (ld row), .d (pd h), .own [ad (summed st.f0 (often row[i] st.w)), ad st.f1], .d (pd st.w), .d (.int (i : Int)), .d (ad row[i])])
        (go_setI (i := 2) rfl (ca_AA (ev_ixO (P := (· = ad st.f0)) (i := 2) rfl (e_mod2 (ev_var (i := 4) rfl)) fun d2 e2 => ⟨_, _, e2, by rw [em]; rfl, rfl⟩) (ca_AP (ev_var (i := 5) rfl) (ev_var (i := 3) rfl) ⟨a1, a2⟩) ⟨a4, a3⟩) (e_mod2 (ev_var (i := 4) rfl)) fun d x e1 e2 => ⟨_, 0, e2, by rw [em]; rfl, by rw [e1]; rfl⟩) ?_
      rintro ms rfl
      exact go_if (t_test (e_eqI (e_mod2 (ev_var (i := 4) rfl)) ev_int)) (fun z => by
        have z := of_decide_eq_true z.symm
        omega) fun _ => go_next ⟨_, _, _, rfl, hg, a8⟩
    · have em : ((i : Int) % 2) = 1 := by omega
      have es : rStep h st i row[i] = ⟨st.f0, summed st.f1 (often row[i] st.w), less (0, 1) (times st.w h)⟩ := if_neg hm
      rw [es] at a8
      have hg : rGo h (row.drop (i + 1)) (i + 1) (rStep h st i row[i]) = rGo h row 0 r0 := hg
      rw [es] at hg
      refine go_seq (N1 := fun ms => ms = [.d (ld row), .d (pd h), .own [ad st.f0, ad (summed st.f1 (often row[i] st.w))], .d (pd st.w), .d (.int (i : Int)), .d (ad row[i])])
        (go_setI (i := 2) rfl (ca_AA (ev_ixO (P := (· = ad st.f1)) (i := 2) rfl (e_mod2 (ev_var (i := 4) rfl)) fun d2 e2 => ⟨_, _, e2, by rw [em]; rfl, rfl⟩) (ca_AP (ev_var (i := 5) rfl) (ev_var (i := 3) rfl) ⟨a1, a2⟩) ⟨a5, a3⟩) (e_mod2 (ev_var (i := 4) rfl)) fun d x e1 e2 => ⟨_, 1, e2, by rw [em]; rfl, by rw [e1]; rfl⟩) ?_
      rintro ms rfl
      exact go_if (t_test (e_eqI (e_mod2 (ev_var (i := 4) rfl)) ev_int)) (fun _ => go_set (ca_PP (ev_c hz.2) (ca_PP (ev_var (i := 3) rfl) (ev_var (i := 1) rfl) ⟨a2, a6⟩) ⟨Sz.zero, a7⟩) fun d e => by subst e; exact ⟨_, _, _, rfl, hg, a8⟩) fun z => by
        have z := of_decide_eq_false z.symm
        omega
  · rintro ms1 ⟨st, x1, y1, rfl, hg, _⟩
    rw [List.length_map, List.drop_length] at hg
    have hg : st = rGo h row 0 r0 := hg
    exact ⟨x1, y1, by rw [hg]; rfl⟩
  · rintro ms ⟨x, y, rfl⟩
    exact go_retO (i := 2) rfl ⟨(row, h), rfl, rfl⟩
end
end Ct
namespace Ct
open PySem PySem.Spec PyProof.Rows L2 He

section
variable {K : PySem.W.Frag} {ms : List Slot} {ta tb te : TE} {al ar : TA} {P P1 P2 : PyData → Prop} {N : List Slot → Prop} {R : List Slot → PyData → Prop} {C B : Hp} {p0 ps : List Addr} {H : Hp} {σ : L2.St}
/-- a new list, kept in sight while one goes on -/
theorem EvN.run {PA : List PyData → Prop} (h : EvN K te ms PA) (E : EnvOk K C B p0 ps H σ ms) {Q : VK}
    (k : ∀ q ys H1 ds, PA ds → q ∉ ps → q ∉ p0 → C q = none → H1 q = some (.lst ys) → EnvOk K (upd C q (.lst ys)) (hides (q :: ps) H1) p0 (q :: ps) H1 σ ms → NotAt σ ms q → DpAll K (hides (q :: ps) H1) ys ds → Same B (hides (q :: ps) H1) → Q (.ref q) H1) : te σ H Q :=
  h C B p0 ps σ H E Q fun q ys H' ds p hq nq q0 hC E1 ho hd => k q ys H' ds p nq q0 hC hq (E1.self.pin hq ho) ho hd E1.base
/-- two new lists at once -/
theorem go_parO {i j : Nat} {PA PB : List PyData → Prop} (hij : i ≠ j) (h1 : EvN K ta ms PA) (h2 : EvN K tb ms PB) (w : ∀ a b, PA a → PB b → N ((ms.set i (.own a)).set j (.own b))) : Go K (tPar i j (tCons ta (tCons tb tNil))) ms N R := fun C B p0 ps σ H E D k1 k2 =>
  h1.run E fun q1 ys1 H1 d1 pa n1 m1 c1 e1 E1 o1 g1 s1 => h2 _ _ _ _ _ _ E1 _ fun q2 ys2 H2 d2 pb e2 n2 m2 c2 E2 o2 g2 => by
    have ne : q2 ≠ q1 := fun z => n2 (z ▸ List.mem_cons_self)
    have hq1 : H2 q1 = some (.lst ys1) := E2.keep q1 _ upd_same
    have c2' : C q2 = none := by rw [upd_ne ne] at c2; exact c2
    have E3 := (E2.back (Same.refl _)).unpin c1
    have E4 := E3.own i (q := q1) (ys := ys1) (ds := d1) (List.mem_cons_of_mem _ List.mem_cons_self) m1 c1 hq1 (g1.to E2.base) o1
    have E5 := E4.own j (q := q2) (ys := ys2) (ds := d2) List.mem_cons_self m2 c2' e2 g2 (fun a m ha hm z => by
      rcases getSet ha with ⟨rfl, rfl, hl⟩ | ⟨na, ha⟩
      · rw [List.getElem?_set_self (by rw [E.len]; exact hl)] at z
        cases z
        exact ne rfl
      · rw [List.getElem?_set_ne (Ne.symm na)] at z
        exact o2 a m ha hm z)
    exact ⟨.ref q1, .ref q2, rfl, k1 _ _ _ H2 (w d1 d2 pa pb) (E5.back s1)⟩
/-- [..] * k -/
theorem en_rep {PA PB : List PyData → Prop} {n : Int} (h : EvN K ta ms PA) (hn : ∀ a, PA a → a.length * n.toNat ≤ 1000) (h2 : Ev K tb ms (· = .int n)) (h0 : -(2 ^ 63) ≤ n ∧ n < 2 ^ 63) (w : ∀ a, PA a → PB (List.replicate n.toNat a).flatten) : EvN K (tOp rRep ta tb) ms PB := fun C B p0 ps σ H E Q k =>
  h.run E fun q ys H1 ds pa nq m1 c1 e1 E1 o1 g1 s1 => h2.run E1 fun y H2 d p E2 s2 hd => by
    subst p
    have hq : H2 q = some (.lst ys) := E2.keep q _ upd_same
    refine ⟨q, n, ys, rfl, dp_int hd, hq, h0.1, h0.2, by rw [dp_len g1]; exact Nat.le_of_lt (small1000 (hn ds pa)), fun p hp => ?_⟩
    have E3 : EnvOk K C B p0 ps H2 σ ms := ((E2.unpin c1).back s1).unhide m1 o1
    obtain ⟨f, a, b, c, d, e⟩ := own_of (ys := (List.replicate n.toNat ys).flatten) E3 hp
    have sq : Same (hides (q :: ps) H2) (hides ps H2) := hides_sub H2 fun a m => List.mem_cons_of_mem _ m
    have rep : ∀ k : Nat, DpAll K (hides ps H2) (List.replicate k ys).flatten (List.replicate k ds).flatten := fun k => by
      induction k with
      | zero => exact .nil
      | succ k ih =>
        rw [List.replicate_succ, List.replicate_succ, List.flatten_cons, List.flatten_cons]
        exact dp_app ((g1.to s2).to sq) ih
    exact k p _ _ _ (w ds pa) upd_same f a b c e ((rep _).to d)
/-- xs + [..], xs one's own -/
theorem ev_catO {i : Nat} {xs : List PyData} {PA : List PyData → Prop} (hi : ms[i]? = some (.own xs)) (h : EvN K tb ms PA) (hz : ∀ a, PA a → xs.length + a.length ≤ 1000) (w : ∀ a, PA a → P (.list (xs ++ a))) : Ev K (tOp rCat (tVar i) tb) ms P := fun C B p0 ps σ H E Q k => by
  obtain ⟨p, vs, a, b, c, d, f⟩ := E.slots i _ hi
  refine ⟨.ref p, a, h.run E fun q ys H1 ds pa nq m1 c1 e1 E1 o1 g1 s1 => ?_⟩
  obtain ⟨p', vs', a', b', c', d', f'⟩ := E1.slots i _ hi
  rw [a] at a'; cases a'
  refine ⟨p, q, vs', ys, rfl, rfl, d', e1, by rw [dp_len f', dp_len g1]; exact Nat.le_of_lt (small1000 (hz ds pa)), fun r hr => ?_⟩
  have E3 : EnvOk K C B p0 ps H1 σ ms := ((E1.unpin c1).back s1).unhide m1 o1
  have sq : Same (hides (q :: ps) H1) (hides ps H1) := hides_sub H1 fun a m => List.mem_cons_of_mem _ m
  have s : Same H1 (upd H1 r (.lst (vs' ++ ys))) := same_new hr
  have np : r ∉ ps := fun m => by obtain ⟨ys, z⟩ := E3.lst r m; rw [hr] at z; cases z
  exact k _ _ _ (w ds pa) (E3.to s) (.lst (.inl (.inl (by rw [hides_out np]; exact upd_same))) ((dp_app (f'.to sq) (g1.to sq)).to (hides_mono ps s)))
/-! ### equality -/
theorem eqv_pd (a b : Q2) : PyData.eqv (pd a) (pd b) = decide (a = b) := by
  rw [Bool.eq_iff_iff]
  simp [pd, PyData.eqv, PyData.eqvAll, Prod.ext_iff]
theorem eqv_ad (a b : A2) : PyData.eqv (ad a) (ad b) = decide (a = b) := by
  have e : PyData.eqv (ad a) (ad b) = (PyData.eqv (pd a.1) (pd b.1) && (PyData.eqv (pd a.2) (pd b.2) && true)) := by
    simp [ad, PyData.eqv, PyData.eqvAll]
  rw [e, eqv_pd, eqv_pd, Bool.eq_iff_iff]
  simp [Prod.ext_iff]
theorem shaped_pd (a : Q2) : SeqAt.shaped (pd a) = true := rfl
theorem shaped_ad (a : A2) : SeqAt.shaped (ad a) = true := rfl
theorem e_eqP {a b : Q2} (ha : Ev K ta ms (· = pd a)) (hb : Ev K tb ms (· = pd b)) : Ev K (tOp (rEqD K) ta tb) ms (· = .bool (decide (a = b))) :=
  ev_eqD ha hb fun d1 d2 e1 e2 => by rw [e1, e2, eqv_pd]; exact ⟨shaped_pd a, shaped_pd b, rfl⟩
theorem e_neA {a b : A2} (ha : Ev K ta ms (· = ad a)) (hb : Ev K tb ms (· = ad b)) : Ev K (tOp (rNeD K) ta tb) ms (· = .bool (!decide (a = b))) :=
  ev_neD ha hb fun d1 d2 e1 e2 => by rw [e1, e2, eqv_ad]; exact ⟨shaped_ad a, shaped_ad b, rfl⟩
/-! ### lists from the top -/
theorem rev3 (z b c : A2) (r : List A2) : (z :: b :: c :: r).reverse.map ad = (b :: c :: r).reverse.map ad ++ [ad z] := by simp
theorem rev2 (b c : A2) (r : List A2) : (b :: c :: r).reverse.map ad = r.reverse.map ad ++ [ad c, ad b] := by simp
theorem atI_m2 {α : Type} (xs : List α) (x y : α) : atI (xs ++ [x, y]) (-2) = some x := by
  unfold atI ixN
  rw [if_neg (by decide), if_pos (by simp; omega)]
  have e : ((-2 : Int) + ((xs ++ [x, y]).length : Nat)).toNat = xs.length := by simp; omega
  simp only [Option.bind_some, e]
  rw [List.getElem?_append_right (by omega)]
  simp
theorem ixN_m2 {α : Type} (xs : List α) (x y : α) : ixN (xs ++ [x, y]).length (-2) = some xs.length := by
  unfold ixN
  rw [if_neg (by decide), if_pos (by simp; omega)]
  have e : ((-2 : Int) + ((xs ++ [x, y]).length : Nat)).toNat = xs.length := by simp; omega
  rw [e]
theorem set_m2 {α : Type} (xs : List α) (x y z : α) : (xs ++ [x, y]).set xs.length z = xs ++ [z, y] := by
  rw [List.set_append_right _ _ (Nat.le_refl _)]
  simp
abbrev tM2 : TE := tUn (rU fun i => .int (-i)) (tC (.int 2))
theorem e_m2 : Ev K tM2 ms (· = .int (-2)) := e_neg ev_int
/-- left[-2] = off(left[-2], often(high, heavy)) -/
theorem go_div {i jh jw : Nat} {r : List A2} {b c z : A2} {h : Q2} (hi : ms[i]? = some (.own (r.reverse.map ad ++ [ad c, ad b]))) (hj : ms[jh]? = some (.d (ad z))) (hw : ms[jw]? = some (.d (pd h))) (c1 : SzA z) (c2 : Sz h) (c3 : SzA c) (c4 : SzA (often z h))
    (n : N (ms.set i (.own ((b :: off c (often z h) :: r).reverse.map ad)))) :
    Go K (tAsg (tCall (spOff K) [] E0 (tCons (tOp (rIxL K) (tVar i) tM2) (tCons (tCall (spOften K) [] E0 (tCons (tVar jh) (tCons (tVar jw) tNil))) tNil))) (gSub (tVar i) tM2 rSetL)) ms N R :=
  go_setI hi (ca_AA (ev_ixO (P := (· = ad c)) hi e_m2 fun d2 e2 => ⟨_, _, e2, atI_m2 _ _ _, rfl⟩) (ca_AP (ev_var hj) (ev_var hw) ⟨c1, c2⟩) ⟨c3, c4⟩) e_m2 fun d x e1 e2 => ⟨_, _, e2, ixN_m2 _ _ _, by rw [set_m2, e1, ← rev2]; exact n⟩
theorem e_gtO {i : Nat} {l : List A2} (hi : ms[i]? = some (.own (l.reverse.map ad))) : Ev K (tOp (rI0 fun i j => .bl (decide (j < i))) (tLen K (tCons (tVar i) tNil)) (tC (.int 2))) ms (· = .bool (decide (2 < l.length))) :=
  ev_B0 (P1 := (· = .int (l.length : Int))) (ev_lenO hi (by simp)) ev_int fun d1 d2 e1 e2 => ⟨_, _, e1, e2, by
    have : decide ((2 : Int) < (l.length : Int)) = decide (2 < l.length) := by
      rw [Bool.eq_iff_iff, decide_eq_true_iff, decide_eq_true_iff]; omega
    rw [this]⟩
end
theorem three {l : List A2} (h : 2 < l.length) : ∃ z b c r, l = z :: b :: c :: r := by
  match l, h with
  | z :: b :: c :: r, _ => exact ⟨z, b, c, r, rfl⟩
section
variable {P : Program} {w : World} {K : PySem.W.Frag} {mg : Str → Option Value} {base : Heap}
def okDiv (a : List A2 × Q2) : Prop := SzD a.2 a.1.reverse ∧ a.1.length ≤ 900
/-! ### split_by -/
abbrev s_split : Stmt := topS 41
theorem sc_split : FnScope ["row", "heavy", "left", "found", "high"] ["row", "heavy"] (defScope s_split) := ⟨rfl, rfl, rfl, by decide +kernel, rfl, by decide +kernel, by decide +kernel⟩
abbrev spQuot (K : PySem.W.Frag) : Sp := SpX K aLP okDiv fun a => ld (quot a.2 a.1)
theorem ok_split (T : IsDef K mg "split_by" s_split) (ml : mg "len" = none) (mi : mg "list" = none) (ho : OkD P w K mg base "off" 36 ["one", "other"] [] (spOff K)) (hf : OkD P w K mg base "often" 36 ["one", "many"] [] (spOften K)) :
    OkD P w K mg base "split_by" 37 ["row", "heavy"] [] (spQuot K) := by
  refine okP T sc_split (fun _ _ _ _ _ _ us hl => match us, hl with | [_, _], _ => rfl) (fun ds ⟨a, e, _⟩ => by rw [e]; rfl) fun cdv A outer s H E hr => ⟨_,
    pss_cons (ps_set (i := 2) sc_split.nd rfl (.inl rfl) (pe_callTy call_list_of (by rfl) mi (by decide +kernel) (pa_cons (pv 0) pa_nil)))
    (pss_cons (ps_set (i := 3) sc_split.nd rfl (.inl rfl) (pe_lst pa_nil))
    (pss_cons (ps_while PassesOwn.never (pt_cmpR op_gt (pe_callB call_len_seq (by rfl) ml PySem.boot_len (pa_cons (pv 2) pa_nil)) pe_int (nomark _))
      (pss_cons (ps_set (i := 4) sc_split.nd rfl (.inl rfl) (pe_bm0 PySem.F.plainAttrs_list PySem.F.slot_list_pop PySem.F.type_list_pop mt_pop (pv 2)))
      (pss_cons (ps_expr (pe_bm PySem.F.plainAttrs_list PySem.F.slot_list_append PySem.F.type_list_append mt_append (pv 3) (pa_cons (pv 4) pa_nil)))
      (pss_one (ps_asg (pe_fn ho hr (pa_cons (pe_ix ix_list (pv 2) (pe_un un_neg pe_int) (fun _ _ => rfl)) (pa_cons (pe_fn hf hr (pa_cons (pv 4) (pa_cons (pv 1) pa_nil))) pa_nil))) (pg_sub (pv 2) (pe_un un_neg pe_int) set_list))))))
    (pss_one (ps_ret (pe_revL (pv 3)))))), ?_⟩
  rintro ds ⟨⟨row, h⟩, rfl, hsz, hlen⟩
  have hsz : SzD h row.reverse := hsz
  have hlen : row.length ≤ 900 := hlen
  refine go_seq (N1 := fun ms => ms = [.d (ld row), .d (pd h), .own (row.map ad), .no, .no]) (go_setO (en_list (PL := (· = row.map ad)) (ea_1 (ev_var (i := 0) rfl)) fun ds e => ⟨_, .inl e, rfl⟩) fun ds e => by rw [e]; rfl) ?_
  rintro ms rfl
  refine go_seq (N1 := fun ms => ms = [.d (ld row), .d (pd h), .own (row.map ad), .own [], .no]) (go_setO (en_lst ea_nil fun ds e => by rw [e]; decide) fun ds e => by rw [e]; rfl) ?_
  rintro ms rfl
  refine go_seq (N1 := fun ms => ∃ x y, ms = [.d (ld row), .d (pd h), x, .own ((divR h row.reverse).2.map ad), y]) (go_while (fun m ms => ∃ l acc y, m = l.length ∧ ms = [.d (ld row), .d (pd h), .own (l.reverse.map ad), .own (acc.map ad), y] ∧ SzD h l ∧ acc ++ (divR h l).2 = (divR h row.reverse).2 ∧ l.length + acc.length ≤ 900)
    row.reverse.length ⟨row.reverse, [], .no, rfl, by rw [List.reverse_reverse]; rfl, hsz, rfl, by simpa using hlen⟩ ?_) ?_
  · rintro m ms1 ⟨l, acc, y, rfl, rfl, hz, hd, hl⟩
    refine ⟨fun c => c = decide (2 < l.length), t_test (e_gtO (i := 2) rfl), fun hy => ?_, fun hn => ?_⟩
    · obtain ⟨z, b, c, r, rfl⟩ := three (of_decide_eq_true hy.symm)
      obtain ⟨c1, c2, c3, c4, c5⟩ := SzD_step hz
      rw [divR_step] at hd
      refine go_seq (N1 := fun ms => ms = [.d (ld row), .d (pd h), .own ((b :: c :: r).reverse.map ad), .own (acc.map ad), .d (ad z)]) (go_pop (i := 2) (j := 4) (by rw [rev3]; rfl) rfl) ?_
      rintro ms rfl
      refine go_seq (N1 := fun ms => ms = [.d (ld row), .d (pd h), .own ((b :: c :: r).reverse.map ad), .own ((acc ++ [z]).map ad), .d (ad z)]) (go_app (i := 3) rfl (by simp at hl ⊢; omega) (ev_var (i := 4) rfl) fun d e => by rw [e, List.map_append]; rfl) ?_
      rintro ms rfl
      refine go_div (i := 2) (jh := 4) (jw := 1) (by rw [rev2]; rfl) rfl rfl c1 c2 c3 c4 ⟨(b :: off c (often z h) :: r).length, by simp, _, acc ++ [z], _, rfl, rfl, c5, ?_, by simp at hl ⊢; omega⟩
      rw [← hd]; simp
    · have hl2 : l.length ≤ 2 := by have := of_decide_eq_false hn.symm; omega
      rw [divR_end h hl2] at hd
      have hd : acc ++ [] = (divR h row.reverse).2 := hd
      rw [List.append_nil] at hd
      exact ⟨_, _, by rw [hd]⟩
  · rintro ms ⟨x, y, rfl⟩
    exact go_ret (ev_revO (P := (· = ld (quot h row))) (i := 3) rfl (by unfold ld quot; rw [List.map_reverse])) fun d e => ⟨(row, h), rfl, e⟩
/-! ### taken -/
abbrev s_l_taken : Stmt := topS 72
theorem sc_l_taken : FnScope ["_law_row", "_law_heavy", "_law_left", "_law_found", "_law_high"] ["_law_row", "_law_heavy"] (defScope s_l_taken) := ⟨rfl, rfl, rfl, by decide +kernel, rfl, by decide +kernel, by decide +kernel⟩
theorem ok_l_taken (T : IsDef K mg "_law_taken" s_l_taken) (ml : mg "len" = none) (mi : mg "list" = none) (ho : OkD P w K mg base "_law_off" 36 ["_law_one", "_law_other"] [] (spOff K)) (hf : OkD P w K mg base "_law_often" 36 ["_law_one", "_law_many"] [] (spOften K)) :
    OkD P w K mg base "_law_taken" 37 ["_law_row", "_law_heavy"] [] (spQuot K) := by
  refine okP T sc_l_taken (fun _ _ _ _ _ _ us hl => match us, hl with | [_, _], _ => rfl) (fun ds ⟨a, e, _⟩ => by rw [e]; rfl) fun cdv A outer s H E hr => ⟨_,
    pss_cons (ps_par (i := 2) (j := 3) rfl sc_l_taken.nd rfl rfl (by decide) rfl rfl (pa_cons (pe_callTy call_list_of (by rfl) mi (by decide +kernel) (pa_cons (pv 0) pa_nil)) (pa_cons (pe_lst pa_nil) pa_nil)) (by rfl))
    (pss_cons (ps_while PassesOwn.never (pt_cmpR op_gt (pe_callB call_len_seq (by rfl) ml PySem.boot_len (pa_cons (pv 2) pa_nil)) pe_int (nomark _))
      (pss_cons (ps_set (i := 4) sc_l_taken.nd rfl (.inl rfl) (pe_bm0 PySem.F.plainAttrs_list PySem.F.slot_list_pop PySem.F.type_list_pop mt_pop (pv 2)))
      (pss_cons (ps_expr (pe_bm PySem.F.plainAttrs_list PySem.F.slot_list_insert PySem.F.type_list_insert mt_insert (pv 3) (pa_cons pe_int (pa_cons (pv 4) pa_nil))))
      (pss_one (ps_asg (pe_fn ho hr (pa_cons (pe_ix ix_list (pv 2) (pe_un un_neg pe_int) (fun _ _ => rfl)) (pa_cons (pe_fn hf hr (pa_cons (pv 4) (pa_cons (pv 1) pa_nil))) pa_nil))) (pg_sub (pv 2) (pe_un un_neg pe_int) set_list))))))
    (pss_one (ps_ret (pv 3)))), ?_⟩
  rintro ds ⟨⟨row, h⟩, rfl, hsz, hlen⟩
  have hsz : SzD h row.reverse := hsz
  have hlen : row.length ≤ 900 := hlen
  refine go_seq (N1 := fun ms => ms = [.d (ld row), .d (pd h), .own (row.map ad), .own [], .no]) (go_parO (by decide) (en_list (PL := (· = row.map ad)) (ea_1 (ev_var (i := 0) rfl)) fun ds e => ⟨_, .inl e, rfl⟩) (en_lst ea_nil fun ds e => by rw [e]; decide) fun a b e1 e2 => by rw [e1, e2]; rfl) ?_
  rintro ms rfl
  refine go_seq (N1 := fun ms => ∃ x y, ms = [.d (ld row), .d (pd h), x, .own ((divR h row.reverse).2.reverse.map ad), y]) (go_while (fun m ms => ∃ l acc y, m = l.length ∧ ms = [.d (ld row), .d (pd h), .own (l.reverse.map ad), .own (acc.reverse.map ad), y] ∧ SzD h l ∧ acc ++ (divR h l).2 = (divR h row.reverse).2 ∧ l.length + acc.length ≤ 900)
    row.reverse.length ⟨row.reverse, [], .no, rfl, by rw [List.reverse_reverse]; rfl, hsz, rfl, by simpa using hlen⟩ ?_) ?_
  · rintro m ms1 ⟨l, acc, y, rfl, rfl, hz, hd, hl⟩
    refine ⟨fun c => c = decide (2 < l.length), t_test (e_gtO (i := 2) rfl), fun hy => ?_, fun hn => ?_⟩
    · obtain ⟨z, b, c, r, rfl⟩ := three (of_decide_eq_true hy.symm)
      obtain ⟨c1, c2, c3, c4, c5⟩ := SzD_step hz
      rw [divR_step] at hd
      refine go_seq (N1 := fun ms => ms = [.d (ld row), .d (pd h), .own ((b :: c :: r).reverse.map ad), .own (acc.reverse.map ad), .d (ad z)]) (go_pop (i := 2) (j := 4) (by rw [rev3]; rfl) rfl) ?_
      rintro ms rfl
      refine go_seq (N1 := fun ms => ms = [.d (ld row), .d (pd h), .own ((b :: c :: r).reverse.map ad), .own ((acc ++ [z]).reverse.map ad), .d (ad z)]) (go_ins0 (i := 3) rfl (by simp at hl ⊢; omega) (ev_var (i := 4) rfl) fun d e => by rw [e, List.reverse_append]; rfl) ?_
      rintro ms rfl
      refine go_div (i := 2) (jh := 4) (jw := 1) (by rw [rev2]; rfl) rfl rfl c1 c2 c3 c4 ⟨(b :: off c (often z h) :: r).length, by simp, _, acc ++ [z], _, rfl, rfl, c5, ?_, by simp at hl ⊢; omega⟩
      rw [← hd]; simp
    · have hl2 : l.length ≤ 2 := by have := of_decide_eq_false hn.symm; omega
      rw [divR_end h hl2] at hd
      have hd : acc ++ [] = (divR h row.reverse).2 := hd
      rw [List.append_nil] at hd
      exact ⟨_, _, by rw [hd]⟩
  · rintro ms ⟨x, y, rfl⟩
    exact go_retO (i := 3) rfl ⟨(row, h), rfl, rfl⟩
/-! ### parted_rest -/
abbrev s_l_prest : Stmt := topS 70
theorem sc_l_prest : FnScope ["_law_row", "_law_heavy", "_law_left", "_law_high"] ["_law_row", "_law_heavy"] (defScope s_l_prest) := ⟨rfl, rfl, rfl, by decide +kernel, rfl, by decide +kernel, by decide +kernel⟩
abbrev spPRest (K : PySem.W.Frag) : Sp := SpX K aLP okDiv fun a => .list [ad (restL a.2 a.1).1, ad (restL a.2 a.1).2]
theorem pad2 {l : List A2} (h : l.length ≤ 2) : l.map ad ++ (List.replicate (2 - (l.length : Int)).toNat [ad org]).flatten = [ad (ent l 0), ad (ent l 1)] := by
  match l, h with
  | [], _ => rfl
  | [a], _ => rfl
  | [a, b], _ => rfl
theorem ok_l_prest (T : IsDef K mg "_law_parted_rest" s_l_prest) (ml : mg "len" = none) (mi : mg "list" = none) (ho : OkD P w K mg base "_law_off" 36 ["_law_one", "_law_other"] [] (spOff K)) (hf : OkD P w K mg base "_law_often" 36 ["_law_one", "_law_many"] [] (spOften K)) :
    OkD P w K mg base "_law_parted_rest" 37 ["_law_row", "_law_heavy"] [] (spPRest K) := by
  refine okP T sc_l_prest (fun _ _ _ _ _ _ us hl => match us, hl with | [_, _], _ => rfl) (fun ds ⟨a, e, _⟩ => by rw [e]; rfl) fun cdv A outer s H E hr => ⟨_,
    pss_cons (ps_set (i := 2) sc_l_prest.nd rfl (.inl rfl) (pe_callTy call_list_of (by rfl) mi (by decide +kernel) (pa_cons (pv 0) pa_nil)))
    (pss_cons (ps_while PassesOwn.never (pt_cmpR op_gt (pe_callB call_len_seq (by rfl) ml PySem.boot_len (pa_cons (pv 2) pa_nil)) pe_int (nomark _))
      (pss_cons (ps_set (i := 3) sc_l_prest.nd rfl (.inl rfl) (pe_bm0 PySem.F.plainAttrs_list PySem.F.slot_list_pop PySem.F.type_list_pop mt_pop (pv 2)))
      (pss_one (ps_asg (pe_fn ho hr (pa_cons (pe_ix ix_list (pv 2) (pe_un un_neg pe_int) (fun _ _ => rfl)) (pa_cons (pe_fn hf hr (pa_cons (pv 3) (pa_cons (pv 1) pa_nil))) pa_nil))) (pg_sub (pv 2) (pe_un un_neg pe_int) set_list)))))
    (pss_one (ps_ret (pe_op op_cat (pv 2) (pe_op op_rep (pe_lst (pa_cons (pe_tup (pa_cons (pe_tup (pa_cons pe_int (pa_cons pe_int pa_nil))) (pa_cons (pe_tup (pa_cons pe_int (pa_cons pe_int pa_nil))) pa_nil))) pa_nil))
      (pe_op op_sub pe_int (pe_callB call_len_seq (by rfl) ml PySem.boot_len (pa_cons (pv 2) pa_nil)))))))), ?_⟩
  rintro ds ⟨⟨row, h⟩, rfl, hsz, hlen⟩
  have hsz : SzD h row.reverse := hsz
  have hlen : row.length ≤ 900 := hlen
  refine go_seq (N1 := fun ms => ms = [.d (ld row), .d (pd h), .own (row.map ad), .no]) (go_setO (en_list (PL := (· = row.map ad)) (ea_1 (ev_var (i := 0) rfl)) fun ds e => ⟨_, .inl e, rfl⟩) fun ds e => by rw [e]; rfl) ?_
  rintro ms rfl
  refine go_seq (N1 := fun ms => ∃ y l, ms = [.d (ld row), .d (pd h), .own (l.map ad), y] ∧ l = (divR h row.reverse).1.reverse ∧ l.length ≤ 2) (go_while (fun m ms => ∃ l y, m = l.length ∧ ms = [.d (ld row), .d (pd h), .own (l.reverse.map ad), y] ∧ SzD h l ∧ (divR h l).1 = (divR h row.reverse).1)
    row.reverse.length ⟨row.reverse, .no, rfl, by rw [List.reverse_reverse], hsz, rfl⟩ ?_) ?_
  · rintro m ms1 ⟨l, y, rfl, rfl, hz, hd⟩
    refine ⟨fun c => c = decide (2 < l.length), t_test (e_gtO (i := 2) rfl), fun hy => ?_, fun hn => ?_⟩
    · obtain ⟨z, b, c, r, rfl⟩ := three (of_decide_eq_true hy.symm)
      obtain ⟨c1, c2, c3, c4, c5⟩ := SzD_step hz
      rw [divR_step] at hd
      refine go_seq (N1 := fun ms => ms = [.d (ld row), .d (pd h), .own ((b :: c :: r).reverse.map ad), .d (ad z)]) (go_pop (i := 2) (j := 3) (by rw [rev3]; rfl) rfl) ?_
      rintro ms rfl
      exact go_div (i := 2) (jh := 3) (jw := 1) (by rw [rev2]; rfl) rfl rfl c1 c2 c3 c4 ⟨(b :: off c (often z h) :: r).length, by simp, _, _, rfl, rfl, c5, hd⟩
    · have hl2 : l.length ≤ 2 := by have := of_decide_eq_false hn.symm; omega
      rw [divR_end h hl2] at hd
      have hd : l = (divR h row.reverse).1 := hd
      exact ⟨_, l.reverse, rfl, by rw [hd], by simpa using hl2⟩
  · rintro ms ⟨y, l, rfl, el, hl2⟩
    refine go_ret (P := (· = .list [ad (ent l 0), ad (ent l 1)])) (ev_catO (i := 2) (PA := (· = (List.replicate (2 - (l.length : Int)).toNat [ad org]).flatten)) rfl (en_rep (PA := (· = [ad org])) (n := 2 - (l.length : Int)) (en_lst (ea_1 e_zero2) fun ds e => by rw [e]; decide) (fun a e => by rw [e]; simp; omega)
      (e_sub ev_int (ev_lenO (i := 2) rfl (by simp))) ⟨by omega, by omega⟩ fun a e => by rw [e]) (fun a e => by rw [e]; simp; omega) fun a e => by rw [e, pad2 hl2]) fun d e => ⟨(row, h), rfl, ?_⟩
    rw [e, el]
    rfl
end
end Ct
namespace Ct
open PySem PySem.Spec PyProof.Rows L2 He

def optA : Option A2 → PyData
  | none => .none
  | some z => ad z
abbrev Tup3 := List A2 × List A2 × Q2
def aTLP (a : Tup3) : List PyData := [.tuple [ld a.1, ld a.2.1], pd a.2.2]
def aLLP (a : Tup3) : List PyData := [ld a.1, ld a.2.1, pd a.2.2]
theorem aTLP_inj (a b : Tup3) (h : aTLP a = aTLP b) : a = b := by
  unfold aTLP at h
  injection h with h1 h2
  injection h2 with h2 _
  injection h1 with h1
  injection h1 with h1 h3
  injection h3 with h3 _
  exact Prod.ext (ld_inj h1) (Prod.ext (ld_inj h3) (pd_inj h2))
theorem aLLP_inj (a b : Tup3) (h : aLLP a = aLLP b) : a = b := by
  unfold aLLP at h
  injection h with h1 h2
  injection h2 with h2 h3
  injection h3 with h3 _
  exact Prod.ext (ld_inj h1) (Prod.ext (ld_inj h2) (pd_inj h3))
structure OkFP (a : Tup3) : Prop where
  r1 : SzR a.2.2 a.1 0 r0
  r2 : SzR a.2.2 a.2.1 0 r0
  f : SzF mate (restP a.2.2 a.1).1 (restP a.2.2 a.1).2 (restP a.2.2 a.2.1).1 (restP a.2.2 a.2.1).2 a.2.2
structure OkFL (a : Tup3) : Prop where
  r1 : okDiv (a.1, a.2.2)
  r2 : okDiv (a.2.1, a.2.2)
  f : SzF mateL (restL a.2.2 a.1).1 (restL a.2.2 a.1).2 (restL a.2.2 a.2.1).1 (restL a.2.2 a.2.1).2 a.2.2
def fFP (a : Tup3) : PyData := optA (frontA mate (restP a.2.2 a.1).1 (restP a.2.2 a.1).2 (restP a.2.2 a.2.1).1 (restP a.2.2 a.2.1).2 a.2.2)
def fFL (a : Tup3) : PyData := optA (frontA mateL (restL a.2.2 a.1).1 (restL a.2.2 a.1).2 (restL a.2.2 a.2.1).1 (restL a.2.2 a.2.1).2 a.2.2)
abbrev spFirst (K : PySem.W.Frag) : Sp := SpX K aTLP OkFP fFP
abbrev spFront (K : PySem.W.Frag) : Sp := SpX K aLLP OkFL fFL
section
variable {K : PySem.W.Frag} {ms : List Slot} {R : List Slot → PyData → Prop} {N : List Slot → Prop} {mt : A2 → A2} {y1 x1 y2 x2 : A2} {h : Q2}
theorem front_0 (hs : plus (weight x1) (weight x2) = (0, 1)) : frontA mt y1 x1 y2 x2 h = none := if_pos hs
theorem front_1 (hs : plus (weight x1) (weight x2) ≠ (0, 1)) (h2 : summed (made y1 (mt x1)) (made y2 (mt x2)) ≠ org) : frontA mt y1 x1 y2 x2 h = none := by
  unfold frontA; rw [if_neg hs, if_pos h2]
theorem front_2 (hs : plus (weight x1) (weight x2) ≠ (0, 1)) (h2 : summed (made y1 (mt x1)) (made y2 (mt x2)) = org) : frontA mt y1 x1 y2 x2 h =
    if weight (often (off (made y2 x1) (made y1 x2)) (over (1, 1) (plus (weight x1) (weight x2)))) = h then some (often (off (made y2 x1) (made y1 x2)) (over (1, 1) (plus (weight x1) (weight x2)))) else none := by
  unfold frontA; rw [if_neg hs, if_neg (fun z => z h2)]
end
section
variable {P : Program} {w : World} {K : PySem.W.Frag} {mg : Str → Option Value} {base : Heap}
/-! ### first_arrow -/
abbrev s_first : Stmt := topS 40
theorem sc_first : FnScope ["told", "heavy", "p", "q", "y_one", "x_one", "y_two", "x_two", "size", "z"] ["told", "heavy"] (defScope s_first) := ⟨rfl, rfl, rfl, by decide +kernel, rfl, by decide +kernel, by decide +kernel⟩
theorem ok_first (T : IsDef K mg "first_arrow" s_first) (ho : Con1 K mg "ORIGIN" (ad org)) (h1 : Con1 K mg "ONE" (pd (1, 1))) (hz : Con1 K mg "ZERO" (pd (0, 1)))
    (hrst : OkD P w K mg base "rest_by" 37 ["row", "heavy"] [] (spRest K)) (hp : OkD P w K mg base "plus" 35 ["one", "other"] [] (spPlus K)) (hw : OkD P w K mg base "weight" 36 ["one"] [] (spWeight K))
    (hs : OkD P w K mg base "summed" 36 ["one", "other"] [] (spSummed K)) (hm : OkD P w K mg base "made" 36 ["one", "other"] [] (spMade K)) (hma : OkD P w K mg base "mate" 36 ["one"] [] (spMate K))
    (hf : OkD P w K mg base "often" 36 ["one", "many"] [] (spOften K)) (hof : OkD P w K mg base "off" 36 ["one", "other"] [] (spOff K)) (hov : OkD P w K mg base "over" 35 ["one", "other"] [] (spOver K)) :
    OkD P w K mg base "first_arrow" 38 ["told", "heavy"] [] (spFirst K) := by
  refine okP T sc_first (fun _ _ _ _ _ _ us hl => match us, hl with | [_, _], _ => rfl) (fun ds ⟨a, e, _⟩ => by rw [e]; rfl) fun cdv A outer s H E hr => ?_
  have hr6 : Room 36 (A.deeper (envOfC "first_arrow" (defScope s_first) s.heap.objs.size (ga K "first_arrow") cdv)) := hr.mono (by decide)
  have hr5 : Room 35 (A.deeper (envOfC "first_arrow" (defScope s_first) s.heap.objs.size (ga K "first_arrow") cdv)) := hr.mono (by decide)
  refine ⟨_,
    pss_cons (ps_asg (pv 0) (pg_tup rfl (pgs_cons (pg_name (i := 2) sc_first.nd rfl (.inl rfl)) (pgs_cons (pg_name (i := 3) sc_first.nd rfl (.inl rfl)) pgs_nil))))
    (pss_cons (ps_asg (pe_fn hrst hr (pa_cons (pv 2) (pa_cons (pv 1) pa_nil))) (pg_lst rfl (pgs_cons (pg_name (i := 4) sc_first.nd rfl (.inl rfl)) (pgs_cons (pg_name (i := 5) sc_first.nd rfl (.inl rfl)) pgs_nil))))
    (pss_cons (ps_asg (pe_fn hrst hr (pa_cons (pv 3) (pa_cons (pv 1) pa_nil))) (pg_lst rfl (pgs_cons (pg_name (i := 6) sc_first.nd rfl (.inl rfl)) (pgs_cons (pg_name (i := 7) sc_first.nd rfl (.inl rfl)) pgs_nil))))
    (pss_cons (ps_set (i := 8) sc_first.nd rfl (.inl rfl) (pe_fn hp hr5 (pa_cons (pe_fn hw hr6 (pa_cons (pv 5) pa_nil)) (pa_cons (pe_fn hw hr6 (pa_cons (pv 7) pa_nil)) pa_nil))))
    (pss_cons (ps_if (pt_cmpR (op_eqD hr.units) (pv 8) (pe_con1 hz) (nomark _)) (pss_one (ps_ret pe_non)) pss_nil)
    (pss_cons (ps_if (pt_cmpR (op_neD hr.units) (pe_fn hs hr6 (pa_cons (pe_fn hm hr6 (pa_cons (pv 4) (pa_cons (pe_fn hma hr6 (pa_cons (pv 5) pa_nil)) pa_nil))) (pa_cons (pe_fn hm hr6 (pa_cons (pv 6) (pa_cons (pe_fn hma hr6 (pa_cons (pv 7) pa_nil)) pa_nil))) pa_nil))) (pe_con1 ho) (nomark _)) (pss_one (ps_ret pe_non)) pss_nil)
    (pss_cons (ps_set (i := 9) sc_first.nd rfl (.inl rfl) (pe_fn hf hr6 (pa_cons (pe_fn hof hr6 (pa_cons (pe_fn hm hr6 (pa_cons (pv 6) (pa_cons (pv 5) pa_nil))) (pa_cons (pe_fn hm hr6 (pa_cons (pv 4) (pa_cons (pv 7) pa_nil))) pa_nil))) (pa_cons (pe_fn hov hr5 (pa_cons (pe_con1 h1) (pa_cons (pv 8) pa_nil))) pa_nil))))
    (pss_one (ps_ret (pe_ifExp (pt_cmpR (op_eqD hr.units) (pe_fn hw hr6 (pa_cons (pv 9) pa_nil)) (pv 1) (nomark _)) (pv 9) pe_non))))))))), ?_⟩
  rintro ds ⟨⟨p, q, h⟩, rfl, c1, c2, c3⟩
  have c1 : SzR h p 0 r0 := c1
  have c2 : SzR h q 0 r0 := c2
  have c3 : SzF mate (restP h p).1 (restP h p).2 (restP h q).1 (restP h q).2 h := c3
  have res : ∀ {r : PyData}, r = optA (frontA mate (restP h p).1 (restP h p).2 (restP h q).1 (restP h q).2 h) → ∃ a, aTLP (p, q, h) = aTLP a ∧ r = fFP a := fun e => ⟨(p, q, h), rfl, e⟩
  refine go_seq (N1 := fun ms => ms = [.d (.tuple [ld p, ld q]), .d (pd h), .d (ld p), .d (ld q), .no, .no, .no, .no, .no, .no]) (go_asg (ev_var (i := 0) rfl) fun d e => ⟨_, by subst e; exact tg_tup2, rfl⟩) ?_
  rintro ms rfl
  refine go_seq (N1 := fun ms => ms = [.d (.tuple [ld p, ld q]), .d (pd h), .d (ld p), .d (ld q), .d (ad (restP h p).1), .d (ad (restP h p).2), .no, .no, .no, .no]) (go_asg (ca_X aLP_inj (a := (p, h)) (ea_2 (ev_var (i := 2) rfl) (ev_var (i := 1) rfl)) c1) fun d e => ⟨_, by subst e; exact tg_lst2, rfl⟩) ?_
  rintro ms rfl
  refine go_seq (N1 := fun ms => ms = [.d (.tuple [ld p, ld q]), .d (pd h), .d (ld p), .d (ld q), .d (ad (restP h p).1), .d (ad (restP h p).2), .d (ad (restP h q).1), .d (ad (restP h q).2), .no, .no]) (go_asg (ca_X aLP_inj (a := (q, h)) (ea_2 (ev_var (i := 3) rfl) (ev_var (i := 1) rfl)) c2) fun d e => ⟨_, by subst e; exact tg_lst2, rfl⟩) ?_
  rintro ms rfl
  refine go_seq (N1 := fun ms => ms = [.d (.tuple [ld p, ld q]), .d (pd h), .d (ld p), .d (ld q), .d (ad (restP h p).1), .d (ad (restP h p).2), .d (ad (restP h q).1), .d (ad (restP h q).2), .d (pd (plus (weight (restP h p).2) (weight (restP h q).2))), .no]) (go_set (ca_PP (ca_A (ev_var (i := 5) rfl) c3.w1) (ca_A (ev_var (i := 7) rfl) c3.w2) ⟨c3.p1, c3.p2⟩) fun d e => by rw [e]; rfl) ?_
  rintro ms rfl
  by_cases hs0 : plus (weight (restP h p).2) (weight (restP h q).2) = (0, 1)
  · refine go_seq (N1 := fun _ => False) (go_if (t_test (e_eqP (b := (0, 1)) (ev_var (i := 8) rfl) (ev_c hz.2))) (fun _ => go_ret ev_non fun d e => res (by rw [e, front_0 hs0]; rfl)) fun z => absurd hs0 (of_decide_eq_false z.symm)) fun m z => z.elim
  refine go_seq (N1 := fun ms => ms = [.d (.tuple [ld p, ld q]), .d (pd h), .d (ld p), .d (ld q), .d (ad (restP h p).1), .d (ad (restP h p).2), .d (ad (restP h q).1), .d (ad (restP h q).2), .d (pd (plus (weight (restP h p).2) (weight (restP h q).2))), .no]) (go_if (t_test (e_eqP (b := (0, 1)) (ev_var (i := 8) rfl) (ev_c hz.2))) (fun z => absurd (of_decide_eq_true z.symm) hs0) fun _ => go_next rfl) ?_
  rintro ms rfl
  by_cases he0 : summed (made (restP h p).1 (mate (restP h p).2)) (made (restP h q).1 (mate (restP h q).2)) = org
  case neg => exact go_seq (N1 := fun _ => False) (go_if (t_test (e_neA (b := org) (ca_AA (ca_AA (ev_var (i := 4) rfl) (ca_A (ev_var (i := 5) rfl) c3.w1.a) c3.m1) (ca_AA (ev_var (i := 6) rfl) (ca_A (ev_var (i := 7) rfl) c3.w2.a) c3.m2) ⟨c3.n1, c3.n2⟩) (ev_c ho.2))) (fun _ => go_ret ev_non fun d e => res (by rw [e, front_1 hs0 he0]; rfl)) fun z => absurd (by simpa using z.symm) he0) fun m z => z.elim
  refine go_seq (N1 := fun ms => ms = [.d (.tuple [ld p, ld q]), .d (pd h), .d (ld p), .d (ld q), .d (ad (restP h p).1), .d (ad (restP h p).2), .d (ad (restP h q).1), .d (ad (restP h q).2), .d (pd (plus (weight (restP h p).2) (weight (restP h q).2))), .no]) (go_if (t_test (e_neA (b := org) (ca_AA (ca_AA (ev_var (i := 4) rfl) (ca_A (ev_var (i := 5) rfl) c3.w1.a) c3.m1) (ca_AA (ev_var (i := 6) rfl) (ca_A (ev_var (i := 7) rfl) c3.w2.a) c3.m2) ⟨c3.n1, c3.n2⟩) (ev_c ho.2))) (fun z => absurd he0 (by simpa using z.symm)) fun _ => go_next rfl) ?_
  rintro ms rfl
  obtain ⟨v1, v2⟩ := c3.v hs0
  refine go_seq (N1 := fun ms => ms = [.d (.tuple [ld p, ld q]), .d (pd h), .d (ld p), .d (ld q), .d (ad (restP h p).1), .d (ad (restP h p).2), .d (ad (restP h q).1), .d (ad (restP h q).2), .d (pd (plus (weight (restP h p).2) (weight (restP h q).2))), .d (ad (often (off (made (restP h q).1 (restP h p).2) (made (restP h p).1 (restP h q).2)) (over (1, 1) (plus (weight (restP h p).2) (weight (restP h q).2)))))]) (go_set (ca_AP (ca_AA (ca_AA (ev_var (i := 6) rfl) (ev_var (i := 5) rfl) c3.m3) (ca_AA (ev_var (i := 4) rfl) (ev_var (i := 7) rfl) c3.m4) ⟨c3.n3, c3.n4⟩) (ca_PP (a := (1, 1)) (ev_c h1.2) (ev_var (i := 8) rfl) ⟨Sz.one, c3.s, c3.nz hs0⟩) ⟨c3.o, v1⟩) fun d e => by rw [e]; rfl) ?_
  rintro ms rfl
  refine go_ret (P := (· = optA (frontA mate (restP h p).1 (restP h p).2 (restP h q).1 (restP h q).2 h))) (ev_if (t_test (e_eqP (ca_A (ev_var (i := 9) rfl) v2) (ev_var (i := 1) rfl))) (fun z => ?_) fun z => ?_) fun d e => res e
  · rw [front_2 hs0 he0, if_pos (of_decide_eq_true z.symm)]; exact (ev_var (i := 9) rfl)
  · rw [front_2 hs0 he0, if_neg (of_decide_eq_false z.symm)]; exact ev_non
/-! ### front -/
abbrev s_l_front : Stmt := topS 71
theorem sc_l_front : FnScope ["_law_p", "_law_q", "_law_heavy", "_law_a", "_law_b", "_law_c", "_law_d", "_law_size", "_law_z"] ["_law_p", "_law_q", "_law_heavy"] (defScope s_l_front) := ⟨rfl, rfl, rfl, by decide +kernel, rfl, by decide +kernel, by decide +kernel⟩
theorem ok_l_front (T : IsDef K mg "_law_front" s_l_front)
    (hrst : OkD P w K mg base "_law_parted_rest" 37 ["_law_row", "_law_heavy"] [] (spPRest K)) (hp : OkD P w K mg base "_law_plus" 35 ["_law_one", "_law_other"] [] (spPlus K)) (hw : OkD P w K mg base "_law_weight" 36 ["_law_one"] [] (spWeight K))
    (hs : OkD P w K mg base "_law_sum" 36 ["_law_one", "_law_other"] [] (spSummed K)) (hm : OkD P w K mg base "_law_made" 36 ["_law_one", "_law_other"] [] (spMade K)) (hma : OkD P w K mg base "_law_mate" 36 ["_law_one"] [] (spMateL K))
    (hf : OkD P w K mg base "_law_often" 36 ["_law_one", "_law_many"] [] (spOften K)) (hof : OkD P w K mg base "_law_off" 36 ["_law_one", "_law_other"] [] (spOff K)) (hov : OkD P w K mg base "_law_per" 35 ["_law_one", "_law_other"] [] (spOver K)) :
    OkD P w K mg base "_law_front" 38 ["_law_p", "_law_q", "_law_heavy"] [] (spFront K) := by
  refine okP T sc_l_front (fun _ _ _ _ _ _ us hl => match us, hl with | [_, _, _], _ => rfl) (fun ds ⟨a, e, _⟩ => by rw [e]; rfl) fun cdv A outer s H E hr => ?_
  have hr6 : Room 36 (A.deeper (envOfC "_law_front" (defScope s_l_front) s.heap.objs.size (ga K "_law_front") cdv)) := hr.mono (by decide)
  have hr5 : Room 35 (A.deeper (envOfC "_law_front" (defScope s_l_front) s.heap.objs.size (ga K "_law_front") cdv)) := hr.mono (by decide)
  refine ⟨_,
    pss_cons (ps_asg (pe_fn hrst hr (pa_cons (pv 0) (pa_cons (pv 2) pa_nil))) (pg_lst rfl (pgs_cons (pg_name (i := 3) sc_l_front.nd rfl (.inl rfl)) (pgs_cons (pg_name (i := 4) sc_l_front.nd rfl (.inl rfl)) pgs_nil))))
    (pss_cons (ps_asg (pe_fn hrst hr (pa_cons (pv 1) (pa_cons (pv 2) pa_nil))) (pg_lst rfl (pgs_cons (pg_name (i := 5) sc_l_front.nd rfl (.inl rfl)) (pgs_cons (pg_name (i := 6) sc_l_front.nd rfl (.inl rfl)) pgs_nil))))
    (pss_cons (ps_set (i := 7) sc_l_front.nd rfl (.inl rfl) (pe_fn hp hr5 (pa_cons (pe_fn hw hr6 (pa_cons (pv 4) pa_nil)) (pa_cons (pe_fn hw hr6 (pa_cons (pv 6) pa_nil)) pa_nil))))
    (pss_cons (ps_if (pt_cmpR (op_eqD hr.units) (pv 7) (pe_tup (pa_cons pe_int (pa_cons pe_int pa_nil))) (nomark _)) (pss_one (ps_ret pe_non)) pss_nil)
    (pss_cons (ps_if (pt_cmpR (op_neD hr.units) (pe_fn hs hr6 (pa_cons (pe_fn hm hr6 (pa_cons (pv 3) (pa_cons (pe_fn hma hr6 (pa_cons (pv 4) pa_nil)) pa_nil))) (pa_cons (pe_fn hm hr6 (pa_cons (pv 5) (pa_cons (pe_fn hma hr6 (pa_cons (pv 6) pa_nil)) pa_nil))) pa_nil)))
      (pe_tup (pa_cons (pe_tup (pa_cons pe_int (pa_cons pe_int pa_nil))) (pa_cons (pe_tup (pa_cons pe_int (pa_cons pe_int pa_nil))) pa_nil))) (nomark _)) (pss_one (ps_ret pe_non)) pss_nil)
    (pss_cons (ps_set (i := 8) sc_l_front.nd rfl (.inl rfl) (pe_fn hf hr6 (pa_cons (pe_fn hof hr6 (pa_cons (pe_fn hm hr6 (pa_cons (pv 5) (pa_cons (pv 4) pa_nil))) (pa_cons (pe_fn hm hr6 (pa_cons (pv 3) (pa_cons (pv 6) pa_nil))) pa_nil))) (pa_cons (pe_fn hov hr5 (pa_cons (pe_tup (pa_cons pe_int (pa_cons pe_int pa_nil))) (pa_cons (pv 7) pa_nil))) pa_nil))))
    (pss_one (ps_ret (pe_ifExp (pt_cmpR (op_eqD hr.units) (pe_fn hw hr6 (pa_cons (pv 8) pa_nil)) (pv 2) (nomark _)) (pv 8) pe_non)))))))), ?_⟩
  rintro ds ⟨⟨p, q, h⟩, rfl, c1, c2, c3⟩
  have c1 : okDiv (p, h) := c1
  have c2 : okDiv (q, h) := c2
  have c3 : SzF mateL (restL h p).1 (restL h p).2 (restL h q).1 (restL h q).2 h := c3
  have res : ∀ {r : PyData}, r = optA (frontA mateL (restL h p).1 (restL h p).2 (restL h q).1 (restL h q).2 h) → ∃ a, aLLP (p, q, h) = aLLP a ∧ r = fFL a := fun e => ⟨(p, q, h), rfl, e⟩
  refine go_seq (N1 := fun ms => ms = [.d (ld p), .d (ld q), .d (pd h), .d (ad (restL h p).1), .d (ad (restL h p).2), .no, .no, .no, .no]) (go_asg (ca_X aLP_inj (a := (p, h)) (ea_2 (ev_var (i := 0) rfl) (ev_var (i := 2) rfl)) c1) fun d e => ⟨_, by subst e; exact tg_lst2, rfl⟩) ?_
  rintro ms rfl
  refine go_seq (N1 := fun ms => ms = [.d (ld p), .d (ld q), .d (pd h), .d (ad (restL h p).1), .d (ad (restL h p).2), .d (ad (restL h q).1), .d (ad (restL h q).2), .no, .no]) (go_asg (ca_X aLP_inj (a := (q, h)) (ea_2 (ev_var (i := 1) rfl) (ev_var (i := 2) rfl)) c2) fun d e => ⟨_, by subst e; exact tg_lst2, rfl⟩) ?_
  rintro ms rfl
  refine go_seq (N1 := fun ms => ms = [.d (ld p), .d (ld q), .d (pd h), .d (ad (restL h p).1), .d (ad (restL h p).2), .d (ad (restL h q).1), .d (ad (restL h q).2), .d (pd (plus (weight (restL h p).2) (weight (restL h q).2))), .no]) (go_set (ca_PP (ca_A (ev_var (i := 4) rfl) c3.w1) (ca_A (ev_var (i := 6) rfl) c3.w2) ⟨c3.p1, c3.p2⟩) fun d e => by rw [e]; rfl) ?_
  rintro ms rfl
  by_cases hs0 : plus (weight (restL h p).2) (weight (restL h q).2) = (0, 1)
  · refine go_seq (N1 := fun _ => False) (go_if (t_test (e_eqP (b := (0, 1)) (ev_var (i := 7) rfl) (e_pair ev_int ev_int))) (fun _ => go_ret ev_non fun d e => res (by rw [e, front_0 hs0]; rfl)) fun z => absurd hs0 (of_decide_eq_false z.symm)) fun m z => z.elim
  refine go_seq (N1 := fun ms => ms = [.d (ld p), .d (ld q), .d (pd h), .d (ad (restL h p).1), .d (ad (restL h p).2), .d (ad (restL h q).1), .d (ad (restL h q).2), .d (pd (plus (weight (restL h p).2) (weight (restL h q).2))), .no]) (go_if (t_test (e_eqP (b := (0, 1)) (ev_var (i := 7) rfl) (e_pair ev_int ev_int))) (fun z => absurd (of_decide_eq_true z.symm) hs0) fun _ => go_next rfl) ?_
  rintro ms rfl
  by_cases he0 : summed (made (restL h p).1 (mateL (restL h p).2)) (made (restL h q).1 (mateL (restL h q).2)) = org
  case neg => exact go_seq (N1 := fun _ => False) (go_if (t_test (e_neA (b := org) (ca_AA (ca_AA (ev_var (i := 3) rfl) (ca_A (ev_var (i := 4) rfl) trivial) c3.m1) (ca_AA (ev_var (i := 5) rfl) (ca_A (ev_var (i := 6) rfl) trivial) c3.m2) ⟨c3.n1, c3.n2⟩) e_zero2)) (fun _ => go_ret ev_non fun d e => res (by rw [e, front_1 hs0 he0]; rfl)) fun z => absurd (by simpa using z.symm) he0) fun m z => z.elim
  refine go_seq (N1 := fun ms => ms = [.d (ld p), .d (ld q), .d (pd h), .d (ad (restL h p).1), .d (ad (restL h p).2), .d (ad (restL h q).1), .d (ad (restL h q).2), .d (pd (plus (weight (restL h p).2) (weight (restL h q).2))), .no]) (go_if (t_test (e_neA (b := org) (ca_AA (ca_AA (ev_var (i := 3) rfl) (ca_A (ev_var (i := 4) rfl) trivial) c3.m1) (ca_AA (ev_var (i := 5) rfl) (ca_A (ev_var (i := 6) rfl) trivial) c3.m2) ⟨c3.n1, c3.n2⟩) e_zero2)) (fun z => absurd he0 (by simpa using z.symm)) fun _ => go_next rfl) ?_
  rintro ms rfl
  obtain ⟨v1, v2⟩ := c3.v hs0
  refine go_seq (N1 := fun ms => ms = [.d (ld p), .d (ld q), .d (pd h), .d (ad (restL h p).1), .d (ad (restL h p).2), .d (ad (restL h q).1), .d (ad (restL h q).2), .d (pd (plus (weight (restL h p).2) (weight (restL h q).2))), .d (ad (often (off (made (restL h q).1 (restL h p).2) (made (restL h p).1 (restL h q).2)) (over (1, 1) (plus (weight (restL h p).2) (weight (restL h q).2)))))]) (go_set (ca_AP (ca_AA (ca_AA (ev_var (i := 5) rfl) (ev_var (i := 4) rfl) c3.m3) (ca_AA (ev_var (i := 3) rfl) (ev_var (i := 6) rfl) c3.m4) ⟨c3.n3, c3.n4⟩) (ca_PP (a := (1, 1)) (e_pair ev_int ev_int) (ev_var (i := 7) rfl) ⟨Sz.one, c3.s, c3.nz hs0⟩) ⟨c3.o, v1⟩) fun d e => by rw [e]; rfl) ?_
  rintro ms rfl
  refine go_ret (P := (· = optA (frontA mateL (restL h p).1 (restL h p).2 (restL h q).1 (restL h q).2 h))) (ev_if (t_test (e_eqP (ca_A (ev_var (i := 8) rfl) v2) (ev_var (i := 2) rfl))) (fun z => ?_) fun z => ?_) fun d e => res e
  · rw [front_2 hs0 he0, if_pos (of_decide_eq_true z.symm)]; exact (ev_var (i := 8) rfl)
  · rw [front_2 hs0 he0, if_neg (of_decide_eq_false z.symm)]; exact ev_non
end
end Ct
namespace Ct
open PySem PySem.Spec PyProof.Rows L2 He

theorem pts_list {n : Nat} {es : List PyData} {f : Nat → PyData} (hl : es.length = n) (h : ∀ k d, es[k]? = some d → d = f k) : es = (List.range n).map f := by
  apply List.ext_getElem?
  intro k
  by_cases hk : k < es.length
  · rw [List.getElem?_eq_getElem hk, List.getElem?_map, List.getElem?_range (by omega), h k _ (List.getElem?_eq_getElem hk)]
    rfl
  · rw [List.getElem?_eq_none (by omega), List.getElem?_eq_none (by simp; omega)]
abbrev Tup4 := List A2 × List A2 × A2 × Q2
def aWof (a : Tup4) : List PyData := [.tuple [ld a.1, ld a.2.1], ad a.2.2.1, pd a.2.2.2]
theorem aWof_inj (a b : Tup4) (h : aWof a = aWof b) : a = b := by
  unfold aWof at h
  injection h with h1 h2
  injection h2 with h2 h3
  injection h3 with h3 _
  injection h1 with h1
  injection h1 with h1 h4
  injection h4 with h4 _
  exact Prod.ext (ld_inj h1) (Prod.ext (ld_inj h4) (Prod.ext (ad_inj h2) (pd_inj h3)))
structure OkW (mt : A2 → A2) (a : Tup4) : Prop where
  w : SzW mt a.1 a.2.1 a.2.2.1 a.2.2.2
  l : a.1.length ≤ 800
def fWof (a : Tup4) : PyData := .tuple [ld (quot a.2.2.2 (lows mate a.1 a.2.1 a.2.2.1)), ld (quot a.2.2.2 (highs mate a.1 a.2.1 a.2.2.1))]
abbrev spWof (K : PySem.W.Frag) : Sp := SpX K aWof (OkW mate) fWof
theorem lows_ld {mt : A2 → A2} {p q : List A2} {z : A2} {ds : List PyData} (hl : ds.length = p.length + 1) (h : ∀ (k : Nat) d, ds[k]? = some d → d = ad (summed (ent p ((k : Int) - 1)) (made z (mt (ent q (k : Int)))))) : .list ds = ld (lows mt p q z) := by
  unfold ld lows
  rw [List.map_map, pts_list hl h]
  rfl
theorem highs_ld {mt : A2 → A2} {p q : List A2} {z : A2} {ds : List PyData} (hl : ds.length = p.length) (h : ∀ (k : Nat) d, ds[k]? = some d → d = ad (off (ent q ((k : Int) - 1)) (made z (mt (ent p (k : Int)))))) : .list ds = ld (highs mt p q z) := by
  unfold ld highs
  rw [List.map_map, pts_list hl h]
  rfl
section
variable {P : Program} {w : World} {K : PySem.W.Frag} {mg : Str → Option Value} {base : Heap}
abbrev s_wof : Stmt := topS 42
theorem sc_wof : FnScope ["told", "z", "heavy", "p", "q", "many", "low", "high", "at"] ["told", "z", "heavy"] (defScope s_wof) := ⟨rfl, rfl, rfl, by decide +kernel, rfl, by decide +kernel, by decide +kernel⟩
theorem ok_wof (T : IsDef K mg "without_first" s_wof) (ml : mg "len" = none) (mr : mg "range" = none) (he : OkD P w K mg base "entry" 34 ["row", "at"] [] (spEnt K)) (hs : OkD P w K mg base "summed" 36 ["one", "other"] [] (spSummed K)) (hm : OkD P w K mg base "made" 36 ["one", "other"] [] (spMade K))
    (hma : OkD P w K mg base "mate" 36 ["one"] [] (spMate K)) (hof : OkD P w K mg base "off" 36 ["one", "other"] [] (spOff K)) (hq : OkD P w K mg base "split_by" 37 ["row", "heavy"] [] (spQuot K)) :
    OkD P w K mg base "without_first" 38 ["told", "z", "heavy"] [] (spWof K) := by
  refine okP T sc_wof (fun _ _ _ _ _ _ us hl => match us, hl with | [_, _, _], _ => rfl) (fun ds ⟨a, e, _⟩ => by rw [e]; rfl) fun cdv A outer s H E hr => ?_
  have hr6 : Room 36 (A.deeper (envOfC "without_first" (defScope s_wof) s.heap.objs.size (ga K "without_first") cdv)) := hr.mono (by decide)
  have hr4 : Room 34 (A.deeper (envOfC "without_first" (defScope s_wof) s.heap.objs.size (ga K "without_first") cdv)) := hr.mono (by decide)
  refine ⟨_,
    pss_cons (ps_asg (pv 0) (pg_tup rfl (pgs_cons (pg_name (i := 3) sc_wof.nd rfl (.inr rfl)) (pgs_cons (pg_name (i := 4) sc_wof.nd rfl (.inr rfl)) pgs_nil))))
    (pss_cons (ps_set (i := 5) sc_wof.nd rfl (.inl rfl) (pe_callB call_len_seq (by rfl) ml PySem.boot_len (pa_cons (pv 3) pa_nil)))
    (pss_cons (ps_setLc (i := 6) (own := [("at", 8)]) (g := gName 8) (tt := tYes) rfl sc_wof.nd rfl rfl (sw_true rfl rfl rfl (by decide +kernel)) (pi_range1 (by rfl) mr (pa_cons (pe_op op_add (pv 5) pe_int) pa_nil)) (blkOk_by (N := ["told", "z", "heavy", "p", "q", "many", "low", "high", "at"]) (sc := defScope s_wof) (by decide +kernel))
      (fun _ _ _ _ _ => pg_name (i := 8) sc_wof.nd rfl (.inl rfl)) (fun _ _ _ _ _ => pts_nil)
      (fun _ _ _ _ _ => pe_fn hs hr6 (pa_cons (pe_fn he hr4 (pa_cons (pv 3) (pa_cons (pe_op op_sub (pv 8) pe_int) pa_nil))) (pa_cons (pe_fn hm hr6 (pa_cons (pv 1) (pa_cons (pe_fn hma hr6 (pa_cons (pe_fn he hr4 (pa_cons (pv 4) (pa_cons (pv 8) pa_nil))) pa_nil)) pa_nil))) pa_nil))))
    (pss_cons (ps_setLc (i := 7) (own := [("at", 8)]) (g := gName 8) (tt := tYes) rfl sc_wof.nd rfl rfl (sw_true rfl rfl rfl (by decide +kernel)) (pi_range1 (by rfl) mr (pa_cons (pv 5) pa_nil)) (blkOk_by (N := ["told", "z", "heavy", "p", "q", "many", "low", "high", "at"]) (sc := defScope s_wof) (by decide +kernel))
      (fun _ _ _ _ _ => pg_name (i := 8) sc_wof.nd rfl (.inl rfl)) (fun _ _ _ _ _ => pts_nil)
      (fun _ _ _ _ _ => pe_fn hof hr6 (pa_cons (pe_fn he hr4 (pa_cons (pv 4) (pa_cons (pe_op op_sub (pv 8) pe_int) pa_nil))) (pa_cons (pe_fn hm hr6 (pa_cons (pv 1) (pa_cons (pe_fn hma hr6 (pa_cons (pe_fn he hr4 (pa_cons (pv 3) (pa_cons (pv 8) pa_nil))) pa_nil)) pa_nil))) pa_nil))))
    (pss_one (ps_ret (pe_tup (pa_cons (pe_fn hq hr (pa_cons (pv 6) (pa_cons (pv 2) pa_nil))) (pa_cons (pe_fn hq hr (pa_cons (pv 7) (pa_cons (pv 2) pa_nil))) pa_nil)))))))), ?_⟩
  rintro ds ⟨⟨p, q, z, h⟩, rfl, hw, hl⟩
  have hw : SzW mate p q z h := hw
  have hl : p.length ≤ 800 := hl
  have V : ∀ {ms : List Slot} {i : Nat} {d : PyData}, ms[i]? = some (.d d) → Ev K (tVar i) ms (· = d) := fun e => ev_var e
  refine go_seq (N1 := fun ms => ms = [.d (.tuple [ld p, ld q]), .d (ad z), .d (pd h), .d (ld p), .d (ld q), .no, .no, .no, .no]) (go_asg (ev_var (i := 0) rfl) fun d e => ⟨_, by subst e; exact tg_tup2, rfl⟩) ?_
  rintro ms rfl
  refine go_seq (N1 := fun ms => ms = [.d (.tuple [ld p, ld q]), .d (ad z), .d (pd h), .d (ld p), .d (ld q), .d (.int (p.length : Int)), .no, .no, .no]) (go_set (e_lenL (ev_var (i := 3) rfl)) fun d e => by rw [e]; rfl) ?_
  rintro ms rfl
  refine go_seq (N1 := fun ms => ms = [.d (.tuple [ld p, ld q]), .d (ad z), .d (pd h), .d (ld p), .d (ld q), .d (.int (p.length : Int)), .d (ld (lows mate p q z)), .no, .no]) (go_set (P := (· = ld (lows mate p q z)))
    (EvN.ev (ev_lcR (n := (p.length : Int) + 1) (j := 8) (x := fun k d => d = ad (summed (ent p ((k : Int) - 1)) (made z (mate (ent q (k : Int)))))) (ea_1 (e_add (ev_var (i := 5) rfl) ev_int)) (by omega) (by omega) rfl (fun k hk => ?_) (P := fun ds => .list ds = ld (lows mate p q z)) fun ds h1 h2 => lows_ld (by omega) h2) fun ds e => e) fun d e => by rw [e]; rfl) ?_
  · obtain ⟨a1, a2, a3, a4⟩ := hw.l1 k (by omega)
    exact ca_AA (ca_X aLI_inj (a := (p, (k : Int) - 1)) (ea_2 (ev_var (i := 3) rfl) (e_sub (ev_var (i := 8) rfl) ev_int)) trivial) (ca_AA (ev_var (i := 1) rfl) (ca_A (ca_X aLI_inj (a := (q, (k : Int))) (ea_2 (ev_var (i := 4) rfl) (ev_var (i := 8) rfl)) trivial) a2) a3) ⟨a1, a4⟩
  rintro ms rfl
  refine go_seq (N1 := fun ms => ms = [.d (.tuple [ld p, ld q]), .d (ad z), .d (pd h), .d (ld p), .d (ld q), .d (.int (p.length : Int)), .d (ld (lows mate p q z)), .d (ld (highs mate p q z)), .no]) (go_set (P := (· = ld (highs mate p q z)))
    (EvN.ev (ev_lcR (n := (p.length : Int)) (j := 8) (x := fun k d => d = ad (off (ent q ((k : Int) - 1)) (made z (mate (ent p (k : Int)))))) (ea_1 (ev_var (i := 5) rfl)) (by omega) (by omega) rfl (fun k hk => ?_) (P := fun ds => .list ds = ld (highs mate p q z)) fun ds h1 h2 => highs_ld (by omega) h2) fun ds e => e) fun d e => by rw [e]; rfl) ?_
  · obtain ⟨a1, a2, a3, a4⟩ := hw.l2 k (by omega)
    exact ca_AA (ca_X aLI_inj (a := (q, (k : Int) - 1)) (ea_2 (ev_var (i := 4) rfl) (e_sub (ev_var (i := 8) rfl) ev_int)) trivial) (ca_AA (ev_var (i := 1) rfl) (ca_A (ca_X aLI_inj (a := (p, (k : Int))) (ea_2 (ev_var (i := 3) rfl) (ev_var (i := 8) rfl)) trivial) a2) a3) ⟨a1, a4⟩
  rintro ms rfl
  exact go_ret (e_pair (ca_X aLP_inj (a := (lows mate p q z, h)) (ea_2 (ev_var (i := 6) rfl) (ev_var (i := 2) rfl)) ⟨hw.d1, by show (lows mate p q z).length ≤ 900; rw [lows_len]; omega⟩)
    (ca_X aLP_inj (a := (highs mate p q z, h)) (ea_2 (ev_var (i := 7) rfl) (ev_var (i := 2) rfl)) ⟨hw.d2, by show (highs mate p q z).length ≤ 900; rw [highs_len]; omega⟩)) fun d e => ⟨(p, q, z, h), rfl, e⟩
end
end Ct
namespace Ct
open PySem PySem.Spec PyProof.Rows L2 He

def rd (r : Str × A2) : PyData := .tuple [.str r.1, ad r.2]
def rl (rs : List (Str × A2)) : PyData := .list (rs.map rd)
theorem rd_inj {a b : Str × A2} (h : rd a = rd b) : a = b := by
  unfold rd at h
  injection h with h
  injection h with h1 h2
  injection h2 with h2 _
  injection h1 with h1
  exact Prod.ext h1 (ad_inj h2)
theorem rl_inj {a b : List (Str × A2)} (h : rl a = rl b) : a = b := by
  unfold rl at h
  injection h with h
  exact map_inj (fun _ _ => rd_inj) h
def pl (ws : List Q2) : PyData := .list (ws.map pd)
theorem pl_inj {a b : List Q2} (h : pl a = pl b) : a = b := by
  unfold pl at h
  injection h with h
  exact map_inj (fun _ _ => pd_inj) h
def exD : Except Nat (List A2) → PyData
  | .error k => .tuple [.str "Unbuilt", .int (k : Int)]
  | .ok zs => .tuple [.str "told", ld zs]
theorem depth_ad (z : A2) : (ad z).depth = 2 := by simp [ad, pd, PyData.depth, PyData.depthAll]
theorem lay_ad (z : A2) : (ad z).canLay0 = true := by simp [ad, pd, PyData.canLay0, PyData.canLayAll0]
theorem shaped_ld (zs : List A2) : SeqAt.shaped (ld zs) = true := by
  have h1 : ∀ zs : List A2, PyData.canLayAll0 (zs.map ad) = true := fun zs => by
    induction zs with
    | nil => rfl
    | cons z zs ih => rw [List.map_cons, PyData.canLayAll0, lay_ad, ih]; rfl
  have h2 : ∀ zs : List A2, PyData.depthAll (zs.map ad) ≤ 2 := fun zs => by
    induction zs with
    | nil => simp [PyData.depthAll]
    | cons z zs ih => rw [List.map_cons, PyData.depthAll, depth_ad]; omega
  unfold SeqAt.shaped
  rw [Bool.and_eq_true]
  refine ⟨?_, decide_eq_true ?_⟩
  · show PyData.canLay0 (.list _) = true
    rw [PyData.canLay0]; exact h1 zs
  · show PyData.depth (.list _) ≤ 64
    rw [PyData.depth]; have := h2 zs; omega
theorem eqv_ld (a b : List A2) : PyData.eqv (ld a) (ld b) = decide (a = b) := by
  have key : ∀ a b : List A2, PyData.eqvAll (a.map ad) (b.map ad) = decide (a = b) := fun a => by
    induction a with
    | nil => intro b; cases b <;> simp [PyData.eqvAll]
    | cons x xs ih =>
      intro b
      cases b with
      | nil => simp [PyData.eqvAll]
      | cons y ys =>
        rw [List.map_cons, List.map_cons, PyData.eqvAll, eqv_ad, ih, Bool.eq_iff_iff]
        simp
  show PyData.eqv (.list _) (.list _) = _
  rw [PyData.eqv, key]
section
variable {K : PySem.W.Frag} {ms : List Slot} {ta tb te : TE}
theorem e_neLd {a b : List A2} (ha : Ev K ta ms (· = ld a)) (hb : Ev K tb ms (· = ld b)) : Ev K (tOp (rNeD K) ta tb) ms (· = .bool (!decide (a = b))) :=
  ev_neD ha hb fun d1 d2 e1 e2 => by rw [e1, e2, eqv_ld]; exact ⟨shaped_ld a, shaped_ld b, rfl⟩
theorem e_lenP {xs : List Q2} (h : Ev K te ms (· = pl xs)) : Ev K (tLen K (tCons te tNil)) ms (· = .int (xs.length : Int)) := by
  have q := e_len (xs := xs.map pd) h
  rwa [List.length_map] at q
theorem e_ixP {xs : List Q2} {i : Nat} (hi : i < xs.length) (h : Ev K ta ms (· = pl xs)) (h2 : Ev K tb ms (· = .int (i : Int))) : Ev K (tOp (rIxL K) ta tb) ms (· = pd xs[i]) :=
  ev_ixL h h2 fun d1 d2 e1 e2 => ⟨_, _, _, e1, e2, atI_nat (by rw [List.getElem?_map, List.getElem?_eq_getElem hi]; rfl), rfl⟩
theorem e_ixL {xs : List A2} {i : Nat} (hi : i < xs.length) (h : Ev K ta ms (· = ld xs)) (h2 : Ev K tb ms (· = .int (i : Int))) : Ev K (tOp (rIxL K) ta tb) ms (· = ad (ent xs (i : Int))) :=
  ev_ixL h h2 fun d1 d2 e1 e2 => ⟨_, _, _, e1, e2, atI_pos (by omega) (ent_in (by omega) (by omega)), rfl⟩
end
/-! ### corners -/
def aCo (a : A2 × List (Str × A2)) : List PyData := [ad a.1, rl a.2]
theorem aCo_inj (a b : A2 × List (Str × A2)) (h : aCo a = aCo b) : a = b := by
  unfold aCo at h
  injection h with h1 h2
  injection h2 with h2 _
  exact Prod.ext (ad_inj h1) (rl_inj h2)
abbrev spCorners (K : PySem.W.Frag) : Sp := SpX K aCo (fun a => SzC a.1 (a.2.map (·.2)) ∧ a.2.length ≤ 800) fun a => ld (corners a.1 (a.2.map (·.2)))
section
variable {P : Program} {w : World} {K : PySem.W.Frag} {mg : Str → Option Value} {base : Heap}
abbrev s_l_corners : Stmt := topS 57
theorem sc_l_corners : FnScope ["_law_start", "_law_rods_here", "_law_found", "_law_name", "_law_z"] ["_law_start", "_law_rods_here"] (defScope s_l_corners) := ⟨rfl, rfl, rfl, by decide +kernel, rfl, by decide +kernel, by decide +kernel⟩
theorem ok_l_corners (T : IsDef K mg "_law_corners" s_l_corners) (hs : OkD P w K mg base "_law_sum" 36 ["_law_one", "_law_other"] [] (spSummed K)) :
    OkD P w K mg base "_law_corners" 37 ["_law_start", "_law_rods_here"] [] (spCorners K) := by
  refine okP T sc_l_corners (fun _ _ _ _ _ _ us hl => match us, hl with | [_, _], _ => rfl) (fun ds ⟨a, e, _⟩ => by rw [e]; rfl) fun cdv A outer s H E hr => ⟨_,
    pss_cons (ps_set (i := 2) sc_l_corners.nd rfl (.inl rfl) (pe_lst (pa_cons (pv 0) pa_nil)))
    (pss_cons (ps_for PassesOwn.never rfl (pi_list (pv 1)) (pg_tup rfl (pgs_cons (pg_name (i := 3) sc_l_corners.nd rfl (.inl rfl)) (pgs_cons (pg_name (i := 4) sc_l_corners.nd rfl (.inl rfl)) pgs_nil)))
      (pss_one (ps_expr (pe_bm PySem.F.plainAttrs_list PySem.F.slot_list_append PySem.F.type_list_append mt_append (pv 2) (pa_cons (pe_fn hs hr (pa_cons (pe_ix ix_list (pv 2) (pe_un un_neg pe_int) (fun _ _ => rfl)) (pa_cons (pv 4) pa_nil))) pa_nil)))))
    (pss_one (ps_ret (pv 2)))), ?_⟩
  rintro ds ⟨⟨s0, rods⟩, rfl, hz, hl⟩
  have hz : SzC s0 (rods.map (·.2)) := hz
  have hl : rods.length ≤ 800 := hl
  refine go_seq (N1 := fun ms => ms = [.d (ad s0), .d (rl rods), .own [ad s0], .no, .no]) (go_setO (en_lst (ea_1 (ev_var (i := 0) rfl)) fun ds e => by rw [e]; simp) fun ds e => by rw [e]; rfl) ?_
  rintro ms rfl
  refine go_seq (N1 := fun ms => ∃ x y, ms = [.d (ad s0), .d (rl rods), .own ((corners s0 (rods.map (·.2))).map ad), x, y]) (go_forL (ev_var (i := 1) rfl) fun d e => ⟨rods.map rd,
    fun i ms => ∃ done cur x y, ms = [.d (ad s0), .d (rl rods), .own (done.map ad ++ [ad cur]), x, y] ∧ done ++ corners cur ((rods.drop i).map (·.2)) = corners s0 (rods.map (·.2)) ∧ SzC cur ((rods.drop i).map (·.2)) ∧ done.length = i, e, ⟨[], s0, .no, .no, rfl, rfl, hz, rfl⟩, ?_, ?_⟩) ?_
  · rintro i x ms1 hi ⟨done, cur, x1, y1, rfl, hd, hc, hn⟩
    have hi2 : i < rods.length := by
      have := (List.getElem?_eq_some_iff.mp hi).1
      simpa using this
    have ex : x = rd rods[i] := by
      rw [List.getElem?_map, List.getElem?_eq_getElem hi2] at hi
      exact (Option.some.inj hi).symm
    subst ex
    rw [List.drop_eq_getElem_cons hi2] at hd hc
    obtain ⟨c1, c2, c3⟩ := hc
    refine ⟨_, tg_tup2, go_app (i := 2) rfl (by simp; omega) (ca_AA (ev_ixO (P := (· = ad cur)) (i := 2) rfl (e_neg ev_int) fun d2 e2 => ⟨_, _, e2, atI_last _ _, rfl⟩) (ev_var (i := 4) rfl) ⟨c1, c2⟩) fun d e => ⟨done ++ [cur], summed cur rods[i].2, _, _, by subst e; rw [List.map_append]; rfl, ?_, c3, by simp [hn]⟩⟩
    rw [← hd]
    show (done ++ [cur]) ++ _ = done ++ (cur :: _)
    rw [List.append_assoc]; rfl
  · rintro ms1 ⟨done, cur, x1, y1, rfl, hd, _, _⟩
    rw [List.length_map, List.drop_length] at hd
    refine ⟨x1, y1, ?_⟩
    rw [← hd]
    simp [corners]
  · rintro ms ⟨x, y, rfl⟩
    exact go_retO (i := 2) rfl ⟨(s0, rods), rfl, rfl⟩
/-! ### whole -/
theorem wlow_ld {p q : List A2} {z : A2} {ds : List PyData} (hl : ds.length = p.length + 1) (h : ∀ (k : Nat) d, ds[k]? = some d → d = ad (off (ent p ((k : Int) - 1)) (made (ent q (k : Int)) (mateL z)))) : .list ds = ld (wlow p q z) := by
  unfold ld wlow
  rw [List.map_map, pts_list hl h]
  rfl
theorem whigh_ld {p q : List A2} {z : A2} {ds : List PyData} (hl : ds.length = p.length) (h : ∀ (k : Nat) d, ds[k]? = some d → d = ad (summed (made (ent p (k : Int)) z) (ent q ((k : Int) - 1)))) : .list ds = ld (whigh p q z) := by
  unfold ld whigh
  rw [List.map_map, pts_list hl h]
  rfl
def aRl (a : List (Str × A2)) : List PyData := [rl a]
theorem aRl_inj (a b : List (Str × A2)) (h : aRl a = aRl b) : a = b := by
  unfold aRl at h
  injection h with h1 _
  exact rl_inj h1
def fWhole (a : List (Str × A2)) : PyData := .tuple [ld (wholeGo (a.map (·.2)) [lone] []).1, ld (wholeGo (a.map (·.2)) [lone] []).2]
abbrev spWhole (K : PySem.W.Frag) : Sp := SpX K aRl (fun a => SzWh (a.map (·.2)) [lone] [] ∧ a.length ≤ 700) fWhole
abbrev s_l_whole : Stmt := topS 67
theorem sc_l_whole : FnScope ["_law_rods_here", "_law_p", "_law_q", "_law_name", "_law_z", "_law_low_here", "_law_k"] ["_law_rods_here"] (defScope s_l_whole) := ⟨rfl, rfl, rfl, by decide +kernel, rfl, by decide +kernel, by decide +kernel⟩
theorem ok_l_whole (T : IsDef K mg "_law_whole" s_l_whole) (ml : mg "len" = none) (mr : mg "range" = none) (he : OkD P w K mg base "_law_at" 34 ["_law_row", "_law_spot_here"] [] (spEnt K)) (hs : OkD P w K mg base "_law_sum" 36 ["_law_one", "_law_other"] [] (spSummed K))
    (hm : OkD P w K mg base "_law_made" 36 ["_law_one", "_law_other"] [] (spMade K)) (hma : OkD P w K mg base "_law_mate" 36 ["_law_one"] [] (spMateL K)) (hof : OkD P w K mg base "_law_off" 36 ["_law_one", "_law_other"] [] (spOff K)) :
    OkD P w K mg base "_law_whole" 37 ["_law_rods_here"] [] (spWhole K) := by
  refine okP T sc_l_whole (fun _ _ _ _ _ _ us hl => match us, hl with | [_], _ => rfl) (fun ds ⟨a, e, _⟩ => by rw [e]; rfl) fun cdv A outer s H E hr => ?_
  have hr4 : Room 34 (A.deeper (envOfC "_law_whole" (defScope s_l_whole) s.heap.objs.size (ga K "_law_whole") cdv)) := hr.mono (by decide)
  refine ⟨_,
    pss_cons (ps_asg (pe_tup (pa_cons (pe_lst (pa_cons (pe_tup (pa_cons (pe_tup (pa_cons pe_int (pa_cons pe_int pa_nil))) (pa_cons (pe_tup (pa_cons pe_int (pa_cons pe_int pa_nil))) pa_nil))) pa_nil)) (pa_cons (pe_lst pa_nil) pa_nil)))
      (pg_tup rfl (pgs_cons (pg_name (i := 1) sc_l_whole.nd rfl (.inr rfl)) (pgs_cons (pg_name (i := 2) sc_l_whole.nd rfl (.inr rfl)) pgs_nil))))
    (pss_cons (ps_for PassesOwn.never rfl (pi_list (pv 0)) (pg_tup rfl (pgs_cons (pg_name (i := 3) sc_l_whole.nd rfl (.inl rfl)) (pgs_cons (pg_name (i := 4) sc_l_whole.nd rfl (.inr rfl)) pgs_nil)))
      (pss_cons (ps_setLc (i := 5) (own := [("_law_k", 6)]) (g := gName 6) (tt := tYes) rfl sc_l_whole.nd rfl rfl (sw_true rfl rfl rfl (by decide +kernel)) (pi_range1 (by rfl) mr (pa_cons (pe_op op_add (pe_callB call_len_seq (by rfl) ml PySem.boot_len (pa_cons (pv 1) pa_nil)) pe_int) pa_nil))
        (blkOk_by (N := ["_law_rods_here", "_law_p", "_law_q", "_law_name", "_law_z", "_law_low_here", "_law_k"]) (sc := defScope s_l_whole) (by decide +kernel)) (fun _ _ _ _ _ => pg_name (i := 6) sc_l_whole.nd rfl (.inl rfl)) (fun _ _ _ _ _ => pts_nil)
        (fun _ _ _ _ _ => pe_fn hof hr (pa_cons (pe_fn he hr4 (pa_cons (pv 1) (pa_cons (pe_op op_sub (pv 6) pe_int) pa_nil))) (pa_cons (pe_fn hm hr (pa_cons (pe_fn he hr4 (pa_cons (pv 2) (pa_cons (pv 6) pa_nil))) (pa_cons (pe_fn hma hr (pa_cons (pv 4) pa_nil)) pa_nil))) pa_nil))))
      (pss_cons (ps_set (i := 2) sc_l_whole.nd rfl (.inr rfl) (pe_lc (own := [("_law_k", 6)]) (g := gName 6) (tt := tYes) rfl sc_l_whole.nd (pi_range1 (by rfl) mr (pa_cons (pe_callB call_len_seq (by rfl) ml PySem.boot_len (pa_cons (pv 1) pa_nil)) pa_nil))
        (blkOk_by (N := ["_law_rods_here", "_law_p", "_law_q", "_law_name", "_law_z", "_law_low_here", "_law_k"]) (sc := defScope s_l_whole) (by decide +kernel)) (fun _ _ _ _ _ => pg_name (i := 6) sc_l_whole.nd rfl (.inl rfl)) (fun _ _ _ _ _ => pts_nil)
        (fun _ _ _ _ _ => pe_fn hs hr (pa_cons (pe_fn hm hr (pa_cons (pe_ix (r := rIxL K) ix_list (pv 1) (pv 6) (fun _ _ => rfl)) (pa_cons (pv 4) pa_nil))) (pa_cons (pe_fn he hr4 (pa_cons (pv 2) (pa_cons (pe_op op_sub (pv 6) pe_int) pa_nil))) pa_nil)))))
      (pss_one (ps_set (i := 1) sc_l_whole.nd rfl (.inr rfl) (pv 5))))))
    (pss_one (ps_ret (pe_tup (pa_cons (pv 1) (pa_cons (pv 2) pa_nil)))))), ?_⟩
  rintro ds ⟨rods, rfl, hz, hl⟩
  refine go_seq (N1 := fun ms => ms = [.d (rl rods), .d (ld [lone]), .d (ld []), .no, .no, .no, .no]) (go_asg (e_pair (x := ld [lone]) (y := ld []) (ev_lst (ea_1 (e_pair (e_pair ev_int ev_int) (e_pair ev_int ev_int))) fun ds e => by rw [e]; exact ⟨by simp, rfl⟩) (ev_lst ea_nil fun ds e => by rw [e]; exact ⟨by simp, rfl⟩)) fun d e => ⟨_, by subst e; exact tg_tup2, rfl⟩) ?_
  rintro ms rfl
  refine go_seq (N1 := fun ms => ∃ x y z, ms = [.d (rl rods), .d (ld (wholeGo (rods.map (·.2)) [lone] []).1), .d (ld (wholeGo (rods.map (·.2)) [lone] []).2), x, y, z, .no]) (go_forL (ev_var (i := 0) rfl) fun d e => ⟨rods.map rd,
    fun i ms => ∃ p q x y z, ms = [.d (rl rods), .d (ld p), .d (ld q), x, y, z, .no] ∧ wholeGo ((rods.drop i).map (·.2)) p q = wholeGo (rods.map (·.2)) [lone] [] ∧ SzWh ((rods.drop i).map (·.2)) p q ∧ p.length = i + 1, e, ⟨[lone], [], .no, .no, .no, rfl, rfl, hz, rfl⟩, ?_, ?_⟩) ?_
  · rintro i x ms1 hi ⟨p, q, x1, y1, z1, rfl, hd, hc, hn⟩
    have hi2 : i < rods.length := by
      have := (List.getElem?_eq_some_iff.mp hi).1
      simpa using this
    have ex : x = rd rods[i] := by
      rw [List.getElem?_map, List.getElem?_eq_getElem hi2] at hi
      exact (Option.some.inj hi).symm
    subst ex
    rw [List.drop_eq_getElem_cons hi2] at hd hc
    obtain ⟨⟨c1, c2⟩, c3⟩ := hc
    refine ⟨_, tg_tup2, ?_⟩
    refine go_seq (N1 := fun ms => ms = [.d (rl rods), .d (ld p), .d (ld q), .d (.str rods[i].1), .d (ad rods[i].2), .d (ld (wlow p q rods[i].2)), .no]) (go_set (P := (· = ld (wlow p q rods[i].2)))
      (EvN.ev (ev_lcR (n := (p.length : Int) + 1) (j := 6) (x := fun k d => d = ad (off (ent p ((k : Int) - 1)) (made (ent q (k : Int)) (mateL rods[i].2)))) (ea_1 (e_add (e_lenL (ev_var (i := 1) rfl)) ev_int)) (by omega) (by omega) rfl (fun k hk => ?_) (P := fun ds => .list ds = ld (wlow p q rods[i].2)) fun ds h1 h2 => wlow_ld (by omega) h2) fun ds e => e) fun d e => by rw [e]; rfl) ?_
    · obtain ⟨a1, a3, a4⟩ := c1 k (by omega)
      exact ca_AA (ca_X aLI_inj (a := (p, (k : Int) - 1)) (ea_2 (ev_var (i := 1) rfl) (e_sub (ev_var (i := 6) rfl) ev_int)) trivial) (ca_AA (ca_X aLI_inj (a := (q, (k : Int))) (ea_2 (ev_var (i := 2) rfl) (ev_var (i := 6) rfl)) trivial) (ca_A (ev_var (i := 4) rfl) trivial) a3) ⟨a1, a4⟩
    rintro ms rfl
    refine go_seq (N1 := fun ms => ms = [.d (rl rods), .d (ld p), .d (ld (whigh p q rods[i].2)), .d (.str rods[i].1), .d (ad rods[i].2), .d (ld (wlow p q rods[i].2)), .no]) (go_set (P := (· = ld (whigh p q rods[i].2)))
      (EvN.ev (ev_lcR (n := (p.length : Int)) (j := 6) (x := fun k d => d = ad (summed (made (ent p (k : Int)) rods[i].2) (ent q ((k : Int) - 1)))) (ea_1 (e_lenL (ev_var (i := 1) rfl))) (by omega) (by omega) rfl (fun k hk => ?_) (P := fun ds => .list ds = ld (whigh p q rods[i].2)) fun ds h1 h2 => whigh_ld (by omega) h2) fun ds e => e) fun d e => by rw [e]; rfl) ?_
    · obtain ⟨a1, a3, a4⟩ := c2 k (by omega)
      exact ca_AA (ca_AA (e_ixL (by omega) (ev_var (i := 1) rfl) (ev_var (i := 6) rfl)) (ev_var (i := 4) rfl) a1) (ca_X aLI_inj (a := (q, (k : Int) - 1)) (ea_2 (ev_var (i := 2) rfl) (e_sub (ev_var (i := 6) rfl) ev_int)) trivial) ⟨a3, a4⟩
    rintro ms rfl
    exact go_set (ev_var (i := 5) rfl) fun d e => by subst e; exact ⟨wlow p q rods[i].2, whigh p q rods[i].2, _, _, _, rfl, hd, c3, by rw [wlow_len, hn]⟩
  · rintro ms1 ⟨p, q, x1, y1, z1, rfl, hd, _, _⟩
    rw [List.length_map, List.drop_length] at hd
    have hd : (p, q) = wholeGo (rods.map (·.2)) [lone] [] := hd
    rw [← hd]
    exact ⟨x1, y1, z1, rfl⟩
  · rintro ms ⟨x, y, z, rfl⟩
    exact go_ret (e_pair (ev_var (i := 1) rfl) (ev_var (i := 2) rfl)) fun d e => ⟨rods, rfl, e⟩
end
end Ct
namespace Ct
open PySem PySem.Spec PyProof.Rows L2 He

def aBL (a : TupB) : List PyData := [ld a.1, ld a.2.1, pl a.2.2]
theorem aBL_inj (a b : TupB) (h : aBL a = aBL b) : a = b := by
  unfold aBL at h
  injection h with h1 h2
  injection h2 with h2 h3
  injection h3 with h3 _
  exact Prod.ext (ld_inj h1) (Prod.ext (ld_inj h2) (pl_inj h3))
abbrev spBuiltL (K : PySem.W.Frag) : Sp := SpX K aBL OkBL fun a => exD (builtL a.2.2 a.1 a.2.1)
def rods1 (zs : List A2) : List (Str × A2) := zs.map fun z => (("r" : Str), z)
theorem rods1_snd (zs : List A2) : (rods1 zs).map (·.2) = zs := by unfold rods1; simp [Function.comp_def]
section
variable {K : PySem.W.Frag} {ms : List Slot} {ta tb te : TE} {N : List Slot → Prop} {R : List Slot → PyData → Prop} {t u : TT}
theorem t_or {a b : Bool} (h1 : EvT K t ms (· = a)) (h2 : EvT K u ms (· = b)) : EvT K (tOr t u) ms (· = (a || b)) :=
  et_or h1 (fun _ => h2) (fun e => by rw [← e]; rfl) fun e b' e' => by rw [← e, e']; rfl
theorem optA_isNo (o : Option A2) : isNo (optA o) = o.isNone := by cases o <;> rfl
end
section
variable {P : Program} {w : World} {K : PySem.W.Frag} {mg : Str → Option Value} {base : Heap}
abbrev s_l_built : Stmt := topS 73
theorem sc_l_built : FnScope ["_law_p", "_law_q", "_law_weights", "_law_rods_here", "_law_at_here", "_law_z", "_law_low_here", "_law_high", "_law_k"] ["_law_p", "_law_q", "_law_weights"] (defScope s_l_built) := ⟨rfl, rfl, rfl, by decide +kernel, rfl, by decide +kernel, by decide +kernel⟩
theorem ok_l_built (T : IsDef K mg "_law_built" s_l_built) (ml : mg "len" = none) (mr : mg "range" = none) (he : OkD P w K mg base "_law_at" 34 ["_law_row", "_law_spot_here"] [] (spEnt K)) (hs : OkD P w K mg base "_law_sum" 36 ["_law_one", "_law_other"] [] (spSummed K))
    (hm : OkD P w K mg base "_law_made" 36 ["_law_one", "_law_other"] [] (spMade K)) (hma : OkD P w K mg base "_law_mate" 36 ["_law_one"] [] (spMateL K)) (hof : OkD P w K mg base "_law_off" 36 ["_law_one", "_law_other"] [] (spOff K))
    (hfr : OkD P w K mg base "_law_front" 38 ["_law_p", "_law_q", "_law_heavy"] [] (spFront K)) (hta : OkD P w K mg base "_law_taken" 37 ["_law_row", "_law_heavy"] [] (spQuot K)) (hco : OkD P w K mg base "_law_corners" 37 ["_law_start", "_law_rods_here"] [] (spCorners K)) :
    OkD P w K mg base "_law_built" 39 ["_law_p", "_law_q", "_law_weights"] [] (spBuiltL K) := by
  refine okP T sc_l_built (fun _ _ _ _ _ _ us hl => match us, hl with | [_, _, _], _ => rfl) (fun ds ⟨a, e, _⟩ => by rw [e]; rfl) fun cdv A outer s H E hr => ?_
  have hr7 : Room 37 (A.deeper (envOfC "_law_built" (defScope s_l_built) s.heap.objs.size (ga K "_law_built") cdv)) := hr.mono (by decide)
  have hr6 : Room 36 (A.deeper (envOfC "_law_built" (defScope s_l_built) s.heap.objs.size (ga K "_law_built") cdv)) := hr.mono (by decide)
  have hr4 : Room 34 (A.deeper (envOfC "_law_built" (defScope s_l_built) s.heap.objs.size (ga K "_law_built") cdv)) := hr.mono (by decide)
  refine ⟨_,
    pss_cons (ps_if (PW.pt (pw_or (pt_cmpR op_ne (pe_callB call_len_seq (by rfl) ml PySem.boot_len (pa_cons (pv 0) pa_nil)) (pe_op op_add (pe_callB call_len_seq (by rfl) ml PySem.boot_len (pa_cons (pv 2) pa_nil)) pe_int) (nomark _))
        (pw_or1 (pt_cmpR op_ne (pe_callB call_len_seq (by rfl) ml PySem.boot_len (pa_cons (pv 1) pa_nil)) (pe_callB call_len_seq (by rfl) ml PySem.boot_len (pa_cons (pv 2) pa_nil)) (nomark _))))) (pss_one (ps_ret (pe_tup (pa_cons pe_str (pa_cons pe_int pa_nil))))) pss_nil)
    (pss_cons (ps_set (i := 3) sc_l_built.nd rfl (.inl rfl) (pe_lst pa_nil))
    (pss_cons (ps_for PassesOwn.never rfl (pi_range1 (by rfl) mr (pa_cons (pe_callB call_len_seq (by rfl) ml PySem.boot_len (pa_cons (pv 2) pa_nil)) pa_nil)) (pg_name (i := 4) sc_l_built.nd rfl (.inl rfl))
      (pss_cons (ps_set (i := 5) sc_l_built.nd rfl (.inr rfl) (pe_fn hfr hr (pa_cons (pv 0) (pa_cons (pv 1) (pa_cons (pe_ix ix_list (pv 2) (pv 4) (fun _ _ => rfl)) pa_nil)))))
      (pss_cons (ps_if (pt_cmpR op_isN (pv 5) pe_non (nomark _)) (pss_one (ps_ret (pe_tup (pa_cons pe_str (pa_cons (pv 4) pa_nil))))) pss_nil)
      (pss_cons (ps_expr (pe_bm PySem.F.plainAttrs_list PySem.F.slot_list_append PySem.F.type_list_append mt_append (pv 3) (pa_cons (pe_tup (pa_cons pe_str (pa_cons (pv 5) pa_nil))) pa_nil)))
      (pss_cons (ps_setLc (i := 6) (own := [("_law_k", 8)]) (g := gName 8) (tt := tYes) rfl sc_l_built.nd rfl rfl (sw_true rfl rfl rfl (by decide +kernel)) (pi_range1 (by rfl) mr (pa_cons (pe_op op_add (pe_callB call_len_seq (by rfl) ml PySem.boot_len (pa_cons (pv 0) pa_nil)) pe_int) pa_nil))
        (blkOk_by (N := ["_law_p", "_law_q", "_law_weights", "_law_rods_here", "_law_at_here", "_law_z", "_law_low_here", "_law_high", "_law_k"]) (sc := defScope s_l_built) (by decide +kernel)) (fun _ _ _ _ _ => pg_name (i := 8) sc_l_built.nd rfl (.inl rfl)) (fun _ _ _ _ _ => pts_nil)
        (fun _ _ _ _ _ => pe_fn hs hr6 (pa_cons (pe_fn he hr4 (pa_cons (pv 0) (pa_cons (pe_op op_sub (pv 8) pe_int) pa_nil))) (pa_cons (pe_fn hm hr6 (pa_cons (pv 5) (pa_cons (pe_fn hma hr6 (pa_cons (pe_fn he hr4 (pa_cons (pv 1) (pa_cons (pv 8) pa_nil))) pa_nil)) pa_nil))) pa_nil))))
      (pss_cons (ps_setLc (i := 7) (own := [("_law_k", 8)]) (g := gName 8) (tt := tYes) rfl sc_l_built.nd rfl rfl (sw_true rfl rfl rfl (by decide +kernel)) (pi_range1 (by rfl) mr (pa_cons (pe_callB call_len_seq (by rfl) ml PySem.boot_len (pa_cons (pv 0) pa_nil)) pa_nil))
        (blkOk_by (N := ["_law_p", "_law_q", "_law_weights", "_law_rods_here", "_law_at_here", "_law_z", "_law_low_here", "_law_high", "_law_k"]) (sc := defScope s_l_built) (by decide +kernel)) (fun _ _ _ _ _ => pg_name (i := 8) sc_l_built.nd rfl (.inl rfl)) (fun _ _ _ _ _ => pts_nil)
        (fun _ _ _ _ _ => pe_fn hof hr6 (pa_cons (pe_fn he hr4 (pa_cons (pv 1) (pa_cons (pe_op op_sub (pv 8) pe_int) pa_nil))) (pa_cons (pe_fn hm hr6 (pa_cons (pv 5) (pa_cons (pe_fn hma hr6 (pa_cons (pe_fn he hr4 (pa_cons (pv 0) (pa_cons (pv 8) pa_nil))) pa_nil)) pa_nil))) pa_nil))))
      (pss_one (ps_asg (pe_tup (pa_cons (pe_fn hta hr7 (pa_cons (pv 6) (pa_cons (pe_ix ix_list (pv 2) (pv 4) (fun _ _ => rfl)) pa_nil))) (pa_cons (pe_fn hta hr7 (pa_cons (pv 7) (pa_cons (pe_ix ix_list (pv 2) (pv 4) (fun _ _ => rfl)) pa_nil))) pa_nil)))
        (pg_tup rfl (pgs_cons (pg_name (i := 0) sc_l_built.nd rfl (.inr rfl)) (pgs_cons (pg_name (i := 1) sc_l_built.nd rfl (.inr rfl)) pgs_nil)))))))))))
    (pss_cons (ps_if (pt_cmpR (op_neD hr.units) (pv 0) (pe_lst (pa_cons (pe_tup (pa_cons (pe_tup (pa_cons pe_int (pa_cons pe_int pa_nil))) (pa_cons (pe_tup (pa_cons pe_int (pa_cons pe_int pa_nil))) pa_nil))) pa_nil)) (nomark _))
        (pss_one (ps_ret (pe_tup (pa_cons pe_str (pa_cons (pe_callB call_len_seq (by rfl) ml PySem.boot_len (pa_cons (pv 2) pa_nil)) pa_nil))))) pss_nil)
    (pss_one (ps_ret (pe_tup (pa_cons pe_str (pa_cons (pe_fn hco hr7 (pa_cons (pe_tup (pa_cons (pe_tup (pa_cons pe_int (pa_cons pe_int pa_nil))) (pa_cons (pe_tup (pa_cons pe_int (pa_cons pe_int pa_nil))) pa_nil))) (pa_cons (pv 3) pa_nil))) pa_nil)))))))), ?_⟩
  rintro ds ⟨⟨p0, q0, ws⟩, rfl, o1, o2, o3⟩
  have o3 : ws.length ≤ 700 := o3
  have res : ∀ {r : PyData}, r = exD (builtL ws p0 q0) → ∃ a, aBL (p0, q0, ws) = aBL a ∧ r = exD (builtL a.2.2 a.1 a.2.1) := fun e => ⟨(p0, q0, ws), rfl, e⟩
  by_cases hL : Lens ws p0 q0
  case neg =>
    refine go_seq (N1 := fun _ => False) (go_if (t_or (t_test (e_neI (e_lenL (ev_var (i := 0) rfl)) (e_add (e_lenP (ev_var (i := 2) rfl)) ev_int))) (t_test (e_neI (e_lenL (ev_var (i := 1) rfl)) (e_lenP (ev_var (i := 2) rfl))))) (fun _ => go_ret (e_pair ev_str ev_int) fun d e => res (by rw [e, builtL_len hL]; rfl)) fun z => absurd z.symm ?_) fun m z => z.elim
    unfold Lens at hL
    simp only [Bool.or_eq_false_iff, Bool.not_eq_false', decide_eq_true_eq]
    omega
  have o1 : SzB mateL restL srL ws p0 q0 := o1 hL
  have o2 : ∀ zs p' q', runB mateL restL ws 0 p0 q0 = .ok (zs, p', q') → SzC org zs := o2 hL
  refine go_seq (N1 := fun ms => ms = [.d (ld p0), .d (ld q0), .d (pl ws), .no, .no, .no, .no, .no, .no]) (go_if (t_or (t_test (e_neI (e_lenL (ev_var (i := 0) rfl)) (e_add (e_lenP (ev_var (i := 2) rfl)) ev_int))) (t_test (e_neI (e_lenL (ev_var (i := 1) rfl)) (e_lenP (ev_var (i := 2) rfl))))) (fun z => absurd z.symm ?_) fun _ => go_next rfl) ?_
  · unfold Lens at hL
    simp only [Bool.or_eq_true, Bool.not_eq_true', decide_eq_false_iff_not]
    omega
  rintro ms rfl
  refine go_seq (N1 := fun ms => ms = [.d (ld p0), .d (ld q0), .d (pl ws), .own [], .no, .no, .no, .no, .no]) (go_setO (en_lst ea_nil fun ds e => by rw [e]; decide) fun ds e => by rw [e]; rfl) ?_
  rintro ms rfl
  refine go_seq (N1 := fun ms => ∃ zs p q x y u v, ms = [.d (ld p), .d (ld q), .d (pl ws), .own ((rods1 zs).map rd), x, y, u, v, .no] ∧ runB mateL restL ws 0 p0 q0 = .ok (zs, p, q) ∧ zs.length = ws.length) (go_forR1 (n := (ws.length : Int)) (ea_1 (e_lenP (ev_var (i := 2) rfl))) (by omega) (by omega)
    (fun i ms => ∃ zs p q x y u v, ms = [.d (ld p), .d (ld q), .d (pl ws), .own ((rods1 zs).map rd), x, y, u, v, .no] ∧ pre zs (runB mateL restL (ws.drop i) i p q) = runB mateL restL ws 0 p0 q0 ∧ zs.length = i ∧ SzB mateL restL srL (ws.drop i) p q ∧ p.length + i = ws.length + 1 ∧ q.length + i = ws.length)
    ⟨[], p0, q0, .no, .no, .no, .no, rfl, pre_nil _, rfl, o1, hL.1, hL.2⟩ ?_ ?_) ?_
  · rintro i ms1 hi ⟨zs, p, q, x, y, u, v, rfl, hp, hz, hb, hl, hl2⟩
    have hi : i < ws.length := by omega
    rw [List.drop_eq_getElem_cons hi] at hp hb
    obtain ⟨⟨b1, b2, b3⟩, b4⟩ := hb
    refine go_seq (N1 := fun ms => ms = [.d (ld p), .d (ld q), .d (pl ws), .own ((rods1 zs).map rd), .d (.int (i : Int)), .d (optA (frontA mateL (restL ws[i] p).1 (restL ws[i] p).2 (restL ws[i] q).1 (restL ws[i] q).2 ws[i])), u, v, .no])
      (go_set (ca_X aLLP_inj (a := (p, q, ws[i])) (ea_3 (ev_var (i := 0) rfl) (ev_var (i := 1) rfl) (e_ixP hi (ev_var (i := 2) rfl) (ev_var (i := 4) rfl))) ⟨⟨b1, by show p.length ≤ 900; omega⟩, ⟨b2, by show q.length ≤ 900; omega⟩, b3⟩) fun d e => by rw [e]; rfl) ?_
    rintro ms rfl
    cases hf : frontA mateL (restL ws[i] p).1 (restL ws[i] p).2 (restL ws[i] q).1 (restL ws[i] q).2 ws[i] with
    | none =>
      rw [runB_none hf] at hp
      refine go_seq (N1 := fun _ => False) (go_if (t_test (ev_isN (P := (· = .bool true)) (ev_var (i := 5) rfl) fun d e => by rw [e]; rfl)) (fun _ => go_ret (e_pair ev_str (ev_var (i := 4) rfl)) fun d e => res (by rw [e, builtL_err hL hp.symm]; rfl)) fun z => by cases z) fun m z => z.elim
    | some z =>
      obtain ⟨b5, b6⟩ := b4 z hf
      rw [runB_some hf, pre_pre] at hp
      refine go_seq (N1 := fun ms => ms = [.d (ld p), .d (ld q), .d (pl ws), .own ((rods1 zs).map rd), .d (.int (i : Int)), .d (ad z), u, v, .no]) (go_if (t_test (ev_isN (P := (· = .bool false)) (ev_var (i := 5) rfl) fun d e => by rw [e]; rfl)) (fun z => by cases z) fun _ => go_next rfl) ?_
      rintro ms rfl
      refine go_seq (N1 := fun ms => ms = [.d (ld p), .d (ld q), .d (pl ws), .own ((rods1 (zs ++ [z])).map rd), .d (.int (i : Int)), .d (ad z), u, v, .no]) (go_app (i := 3) rfl (by simp [rods1]; omega) (e_pair ev_str (ev_var (i := 5) rfl)) fun d e => by subst e; unfold rods1; rw [List.map_append, List.map_append]; rfl) ?_
      rintro ms rfl
      refine go_seq (N1 := fun ms => ms = [.d (ld p), .d (ld q), .d (pl ws), .own ((rods1 (zs ++ [z])).map rd), .d (.int (i : Int)), .d (ad z), .d (ld (lows mateL p q z)), v, .no]) (go_set (P := (· = ld (lows mateL p q z)))
        (EvN.ev (ev_lcR (n := (p.length : Int) + 1) (j := 8) (x := fun k d => d = ad (summed (ent p ((k : Int) - 1)) (made z (mateL (ent q (k : Int)))))) (ea_1 (e_add (e_lenL (ev_var (i := 0) rfl)) ev_int)) (by omega) (by omega) rfl (fun k hk => ?_) (P := fun ds => .list ds = ld (lows mateL p q z)) fun ds h1 h2 => lows_ld (by omega) h2) fun ds e => e) fun d e => by rw [e]; rfl) ?_
      · obtain ⟨a1, a2, a3, a4⟩ := b5.l1 k (by omega)
        exact ca_AA (ca_X aLI_inj (a := (p, (k : Int) - 1)) (ea_2 (ev_var (i := 0) rfl) (e_sub (ev_var (i := 8) rfl) ev_int)) trivial) (ca_AA (ev_var (i := 5) rfl) (ca_A (ca_X aLI_inj (a := (q, (k : Int))) (ea_2 (ev_var (i := 1) rfl) (ev_var (i := 8) rfl)) trivial) trivial) a3) ⟨a1, a4⟩
      rintro ms rfl
      refine go_seq (N1 := fun ms => ms = [.d (ld p), .d (ld q), .d (pl ws), .own ((rods1 (zs ++ [z])).map rd), .d (.int (i : Int)), .d (ad z), .d (ld (lows mateL p q z)), .d (ld (highs mateL p q z)), .no]) (go_set (P := (· = ld (highs mateL p q z)))
        (EvN.ev (ev_lcR (n := (p.length : Int)) (j := 8) (x := fun k d => d = ad (off (ent q ((k : Int) - 1)) (made z (mateL (ent p (k : Int)))))) (ea_1 (e_lenL (ev_var (i := 0) rfl))) (by omega) (by omega) rfl (fun k hk => ?_) (P := fun ds => .list ds = ld (highs mateL p q z)) fun ds h1 h2 => highs_ld (by omega) h2) fun ds e => e) fun d e => by rw [e]; rfl) ?_
      · obtain ⟨a1, a2, a3, a4⟩ := b5.l2 k (by omega)
        exact ca_AA (ca_X aLI_inj (a := (q, (k : Int) - 1)) (ea_2 (ev_var (i := 1) rfl) (e_sub (ev_var (i := 8) rfl) ev_int)) trivial) (ca_AA (ev_var (i := 5) rfl) (ca_A (ca_X aLI_inj (a := (p, (k : Int))) (ea_2 (ev_var (i := 0) rfl) (ev_var (i := 8) rfl)) trivial) trivial) a3) ⟨a1, a4⟩
      rintro ms rfl
      refine go_asg (e_pair (ca_X aLP_inj (a := (lows mateL p q z, ws[i])) (ea_2 (ev_var (i := 6) rfl) (e_ixP hi (ev_var (i := 2) rfl) (ev_var (i := 4) rfl))) ⟨b5.d1, by show (lows mateL p q z).length ≤ 900; rw [lows_len]; omega⟩)
        (ca_X aLP_inj (a := (highs mateL p q z, ws[i])) (ea_2 (ev_var (i := 7) rfl) (e_ixP hi (ev_var (i := 2) rfl) (ev_var (i := 4) rfl))) ⟨b5.d2, by show (highs mateL p q z).length ≤ 900; rw [highs_len]; omega⟩)) fun d e => ⟨_, by subst e; exact tg_tup2, ?_⟩
      exact ⟨zs ++ [z], quot ws[i] (lows mateL p q z), quot ws[i] (highs mateL p q z), _, _, _, _, rfl, hp, by simp [hz], b6, by rw [quot_len, lows_len]; omega, by rw [quot_len, highs_len]; omega⟩
  · rintro ms1 ⟨zs, p, q, x, y, u, v, rfl, hp, hz, hb, hl, hl2⟩
    have en : (ws.length : Int).toNat = ws.length := by omega
    rw [en] at hp hz
    rw [List.drop_length, runB_nil] at hp
    have hp : Except.ok (zs ++ [], p, q) = runB mateL restL ws 0 p0 q0 := hp
    rw [List.append_nil] at hp
    exact ⟨zs, p, q, x, y, u, v, rfl, hp.symm, hz⟩
  rintro ms ⟨zs, p, q, x, y, u, v, rfl, hp, hz⟩
  have eb := builtL_ok hL hp
  by_cases e1 : p = [lone]
  case neg =>
    rw [if_neg e1] at eb
    refine go_seq (N1 := fun _ => False) (go_if (t_test (e_neLd (b := [lone]) (ev_var (i := 0) rfl) (ev_lst (ea_1 (e_pair (e_pair ev_int ev_int) (e_pair ev_int ev_int))) fun ds e => by rw [e]; exact ⟨by simp, rfl⟩))) (fun _ => go_ret (e_pair ev_str (e_lenP (ev_var (i := 2) rfl))) fun d e => res (by rw [e, eb]; rfl)) fun z => absurd (by simpa using z.symm) e1) fun m z => z.elim
  rw [if_pos e1] at eb
  refine go_seq (N1 := fun ms => ms = [.d (ld p), .d (ld q), .d (pl ws), .own ((rods1 zs).map rd), x, y, u, v, .no]) (go_if (t_test (e_neLd (b := [lone]) (ev_var (i := 0) rfl) (ev_lst (ea_1 (e_pair (e_pair ev_int ev_int) (e_pair ev_int ev_int))) fun ds e => by rw [e]; exact ⟨by simp, rfl⟩))) (fun z => absurd e1 (by simpa using z.symm)) fun _ => go_next rfl) ?_
  rintro ms rfl
  refine go_free (i := 3) rfl (go_ret (e_pair ev_str (ca_X aCo_inj (a := (org, rods1 zs)) (ea_2 e_zero2 (ev_var (i := 3) rfl)) ⟨by show SzC org ((rods1 zs).map (·.2)); rw [rods1_snd]; exact o2 _ _ _ hp, by show (rods1 zs).length ≤ 800; unfold rods1; simp; omega⟩)) fun d e => res ?_)
  rw [e, eb]
  show PyData.tuple [_, ld (corners org ((rods1 zs).map (·.2)))] = _
  rw [rods1_snd]
  rfl
end
end Ct
namespace Ct
open PySem PySem.Spec PyProof.Rows L2 He

/-! ### the exception -/
abbrev sUnb : Stmt := topS 11
/-- the method within a class -/
def metS : Stmt → Stmt
  | .ClassDef (body := b) .. => b.getD 0 (.Pass ⟨0, 0, 0, 0⟩)
  | s => s
abbrev sUbI : Stmt := metS sUnb
theorem scUbI : FnScope ["self", "at"] ["self", "at"] (defScope sUbI) := ⟨rfl, rfl, rfl, by decide +kernel, rfl, by decide +kernel, by decide +kernel⟩
abbrev qUbI : Str := "Unbuilt.__init__"
/-- what the module holds of the class -/
structure UbC (K : PySem.W.Frag) (mg : Str → Option Value) (fI : Addr) : Prop where
  m : mg "Unbuilt" = some (.ref (ga K "Unbuilt"))
  o : OexC K (ga K "Unbuilt")
  i : PySem.W.findIn K (.ref (ga K "Unbuilt")) "__init__" = some (some (.ref fI))
  t : PySem.W.typeIn K (.ref fI) = some (.type "function")
  f : ∃ fd, FunD K "__init__" qUbI (defArgs sUbI) (defBody sUbI) (defScope sUbI) [] [] fI fd
  c : PySem.W.findIn K (.ref (ga K "Unbuilt")) "called" = some none
  a : PySem.W.findIn K (.ref (ga K "Unbuilt")) "at" = some none
/-- what the exception tells -/
def ExAt (CU : Addr) (k : Int) (cls : Value) (d : Option Addr) (H : Hp) : Prop := cls = .ref CU ∧ ∃ dd fs, d = some dd ∧ H dd = some (.xd fs) ∧ fs.lookup ("called" : Str) = some (V.str "Unbuilt") ∧ fs.lookup ("at" : Str) = some (V.int k)
def ubH (H : Hp) (a C dx : Addr) (k : Int) : Hp := upd (upd (upd H dx (exd dx [("called", .str "Unbuilt")])) a (exo a C (some dx))) dx (exd dx [("at", .int k), ("called", .str "Unbuilt")])
def spUbI (C : Addr) : Sp := fun vs H Q _ => ∃ (a : Addr) (k : Int), vs = [.ref a, .int k] ∧ H a = some (exo a C none) ∧ ∀ dx, H dx = none → dx ≠ a → Q .non (ubH H a C dx k)
section
variable {P : Program} {w : World} {K : PySem.W.Frag} {mg : Str → Option Value} {base : Heap} {fI : Addr}
theorem ok_ubi (T : UbC K mg fI) : ∃ fd, FnOk P w K mg base CX0 1 fI fd ["self", "at"] (spUbI (ga K "Unbuilt")) ∧ Binds K fd ["self", "at"] [] := by
  obtain ⟨fd, F⟩ := T.f
  refine ⟨fd, F.ok scUbI (fun vs H Q E h => ?_) (fun cdv A outer s H vs Q E hr h => ?_), F.bindsN fun _ _ _ _ _ _ us hl => match us, hl with | [_, _], _ => rfl⟩
  · obtain ⟨a, k, rfl, _⟩ := h
    rfl
  · obtain ⟨a, k, rfl, ha, h⟩ := h
    refine ⟨_, pss_cons (ps_ost (pv 0) pe_str) (pss_one (ps_ost (pv 0) (pv 1))), ?_⟩
    refine ⟨.ref a, rfl, a, _, rfl, T.o, T.c, .inl ⟨ha, fun dx hd hne => ?_⟩⟩
    refine ⟨.int k, rfl, .ref a, rfl, a, _, rfl, T.o, T.a, .inr ⟨dx, [("called", .str "Unbuilt")], upd_same, ?_, by decide, ?_⟩⟩
    · rw [upd_ne hne]; exact upd_same
    · exact h dx hd hne
end
/-! ### statements that may raise it -/
def GoW (K : PySem.W.Frag) (W : WX) (ts : TS) (ms : List Slot) (N : List Slot → Prop) (R : List Slot → PyData → Prop) (X : Int → Prop) : Prop :=
  ∀ (C B : Hp) (p0 ps : List Addr) (σ : L2.St) (H : Hp), EnvOk K C B p0 ps H σ ms → (∀ k cls d ms' ps' σ' H', X k → ExAt (ga K "Unbuilt") k cls d H' → EnvOk K C B p0 ps' H' σ' ms' → W cls d σ' H') → ∀ D : Ends,
    (∀ ms' ps' σ' H', N ms' → EnvOk K C B p0 ps' H' σ' ms' → D.nx σ' H') →
    (∀ v ms' ps' σ' H' r, R ms' r → EnvOk K C B p0 ps' H' σ' ms' → Dp K (hides p0 H') v r → D.rt v H') → ts D σ H
section
variable {K : PySem.W.Frag} {ms ms' : List Slot} {ta tb te : TE} {al ar : TA} {t u : TT} {ts tu tw : TS} {g : TG} {P P1 P2 : PyData → Prop} {PS : List PyData → Prop} {N N1 : List Slot → Prop} {R : List Slot → PyData → Prop} {W : WX} {X : Int → Prop}
theorem gw_of (h : Go K ts ms N R) : GoW K W ts ms N R X := fun C B p0 ps σ H E _ D k1 k2 => h C B p0 ps σ H E D k1 k2
theorem gw_seq (h1 : GoW K W ts ms N1 R X) (h2 : ∀ m, N1 m → GoW K W tu m N R X) : GoW K W (tSeq ts tu) ms N R X := fun C B p0 ps σ H E hW D k1 k2 =>
  h1 C B p0 ps σ H E hW { D with nx := tu D } (fun m' ps' σ' H' n E' => h2 m' n C B p0 ps' σ' H' E' hW D k1 k2) k2
theorem gw_if {PB : Bool → Prop} (h : EvT K t ms PB) (h1 : PB true → GoW K W ts ms N R X) (h2 : PB false → GoW K W tu ms N R X) : GoW K W (tIfS t ts tu) ms N R X := fun C B p0 ps σ H E hW D k1 k2 =>
  h.run E fun b H' p E' s => by
    cases b with
    | true => exact iteT (h1 p C B p0 ps σ H' E' hW D k1 k2)
    | false => exact iteF (h2 p C B p0 ps σ H' E' hW D k1 k2)
theorem gw_forE {al : TA} {PS : List PyData → Prop} (h : EvA K al ms PS) (hw : ∀ d, PS d → ∃ (ds : List PyData) (I : Nat → List Slot → Prop), d = [.list ds] ∧ I 0 ms ∧
    (∀ (i : Nat) x ms1, ds[i]? = some x → I i ms1 → ∃ ms2, Tg K g (.tuple [.int (i : Int), x]) ms1 ms2 ∧ GoW K W ts ms2 (I (i + 1)) R X) ∧ ∀ ms1, I ds.length ms1 → N ms1) : GoW K W (tFor (iEnum K al) g ts) ms N R X := fun C B p0 ps σ H E hW D k1 k2 =>
  h.run E fun vs H1 d p E1 s1 hd => by
    obtain ⟨ds, I, rfl, i0, hs, he⟩ := hw d p
    cases hd with
    | cons hd hn =>
      cases hn
      obtain ⟨a, xs, rfl, hx, hxs⟩ := dp_list hd
      have E1' := E1.self
      refine ⟨a, xs, rfl, (hides_le _ _).seq hx, ?_⟩
      refine ⟨fun i m σ H => m = xs.length - i ∧ i ≤ xs.length ∧ ∃ ms1 ps', I i ms1 ∧ EnvOk K C (hides ps H1) p0 ps' H σ ms1, ⟨xs.length, by simp, Nat.zero_le _, ms, ps, i0, E1'⟩, ?_⟩
      rintro i m σ1 H2 ⟨rfl, hi, ms1, ps', hI, E2⟩
      have hS : SqL K H2 a xs := (hides_le _ _).seq (E2.base.seq hx)
      by_cases hlt : i < xs.length
      · refine .inr ⟨⟨xs, xs[i], hS, by simp [hlt]⟩, fun σ' H' => ∃ ms1 ps', I (i + 1) ms1 ∧ EnvOk K C (hides ps H1) p0 ps' H' σ' ms1, fun σ' H' z => ⟨xs.length - (i + 1), by omega, rfl, hlt, z⟩, fun x H' y => ?_⟩
        obtain ⟨T, y, rfl, nT, rfl, hy⟩ := y
        have ey := hy xs hS
        have hl : i < ds.length := by rw [← dp_len hxs]; exact hlt
        obtain ⟨v, hv, hdv⟩ := dp_get hxs (List.getElem?_eq_getElem hl)
        rw [ey] at hv; cases hv
        obtain ⟨ms2, tg, go⟩ := hs i _ ms1 (List.getElem?_eq_getElem hl) hI
        have sT : Same H2 (upd H2 T (.tup [.int (i : Nat), y])) := same_new nT
        have E3 := E2.to sT
        have nps : T ∉ ps' := fun m => by obtain ⟨ys, z⟩ := E2.lst T m; rw [nT] at z; cases z
        refine tg C (hides ps H1) p0 ps' σ1 _ (.ref T) E3 (.tup (.inl (.inl (by rw [hides_out nps]; exact upd_same))) (.cons (.int _) (.cons (hdv.to E3.base) .nil))) _ fun σ2 E4 => ?_
        exact go C (hides ps H1) p0 ps' σ2 _ E4 (fun k cls d ms' ps' σ' H' a b c => hW k cls d ms' ps' σ' H' a b (c.back E1.base)) _ (fun ms' ps' σ' H' z E' => ⟨ms', ps', z, E'⟩) fun v ms' ps' σ' H' r q E' => k2 v ms' ps' σ' H' r q (E'.back E1.base)
      · have e : i = xs.length := by omega
        subst e
        refine .inl ⟨⟨xs, hS, Nat.le_refl _⟩, ?_⟩
        rw [dp_len hxs] at hI
        exact k1 ms1 ps' σ1 H2 (he ms1 hI) (E2.back E1.base)
/-- raise Unbuilt(e) -/
theorem gw_raise {k : Int} (h : Ev K te ms (· = .int k)) (x : X k) : GoW K W (fun _ σ H => tMkO (ga K "Unbuilt") (spUbI (ga K "Unbuilt")) [] (tCons te tNil) σ H fun cls d H' => W cls d σ H') ms N R X := fun C B p0 ps σ H E hW D k1 k2 =>
  (ea_1 h).run E fun vs H1 ds p E1 s1 hd => by
    subst p
    cases hd with
    | cons h1 hn =>
      cases hn
      rw [dp_int h1]
      refine ⟨by simp, fun a na => ?_⟩
      refine ⟨a, k, rfl, upd_same, fun dx nd ne => ⟨rfl, dx, _, ?_, upd_same, ?_, ?_⟩⟩
      · unfold ubH
        rw [upd_ne (Ne.symm ne)]; exact upd_same
      · rw [upd_ne ne] at nd; exact nd
      · have nd : H1 dx = none := by rw [upd_ne ne] at nd; exact nd
        have e : ∀ o, upd (del (ubH (upd H1 a (exo a (ga K "Unbuilt") none)) a (ga K "Unbuilt") dx k) a) dx o = upd H1 dx o := fun o => by
          funext b
          by_cases hb : b = dx
          · subst hb; rw [upd_same, upd_same]
          · rw [upd_ne hb, upd_ne hb]
            by_cases hba : b = a
            · subst hba; rw [del_same]; exact na.symm
            · rw [del_ne hba]; unfold ubH; rw [upd_ne hb, upd_ne hba, upd_ne hb, upd_ne hba]
        rw [e]
        exact hW k _ _ ms ps σ _ x ⟨rfl, dx, _, rfl, upd_same, rfl, rfl⟩ (E1.to (same_new nd))
end
/-- a def that changes nothing and may raise it -/
def SpE (K : PySem.W.Frag) (Pre : List PyData → Prop) (R : List PyData → PyData → Prop) (RX : List PyData → Int → Prop) : Sp := fun vs H Q E => ∃ (ps : List Addr) (ds : List PyData),
  (∀ p ∈ ps, ∃ xs, H p = some (.lst xs)) ∧ DpAll K (hides ps H) vs ds ∧ Pre ds ∧ (∀ v H' r, R ds r → Same H H' → Dp K (hides ps H') v r → Q v H') ∧ ∀ k cls d H', RX ds k → ExAt (ga K "Unbuilt") k cls d H' → Same H H' → E cls d H'
section
variable {P : Program} {w : World} {K : PySem.W.Frag} {mg : Str → Option Value} {base : Heap}
theorem okE {x : Str} {st : Stmt} {N ps : List Str} {k : Nat} {Pre : List PyData → Prop} {R : List PyData → PyData → Prop} {RX : List PyData → Int → Prop} {dvs : List V} {kws : List (Str × V)} {fd : FuncData} (F : FunD K x x (defArgs st) (defBody st) (defScope st) dvs kws (ga K x) fd) (S : FnScope N ps (defScope st))
    (len : ∀ ds, Pre ds → ds.length = ps.length)
    (hb : ∀ (cdv : Value) (A : Around) (outer : List Env) (s : Shared) (H : Hp) (E : XK), Room k (A.deeper (envOfC x (defScope st) s.heap.objs.size (ga K x) cdv)) →
      ∃ t, PSs (cxOf (L2.CX P w) P w K mg base N x (defScope st) (ga K x) cdv A outer s H E) (defBody st) t ∧ ∀ ds, Pre ds → GoW K (fun cls d _ H => E cls d H) t (startM N ds) (fun _ => R ds .none) (fun _ r => R ds r) (RX ds)) : FnOk P w K mg base (L2.CX P w) (k + 1) (ga K x) fd ps (SpE K Pre R RX) := by
  refine F.ok S (fun vs H Q E h => ?_) (fun cdv A outer s H vs Q E hr h => ?_)
  · obtain ⟨qs, ds, h1, h2, h3, _⟩ := h
    rw [dp_len h2, len ds h3]
  · obtain ⟨qs, ds, h1, h2, h3, h4, h5⟩ := h
    obtain ⟨t, ht, go⟩ := hb cdv A outer s H E hr
    refine ⟨t, ht, go ds h3 H (hides qs H) qs qs _ H (start_ok h1 h2) (fun k cls d ms' ps' σ' H' a b E' => h5 k cls d H' a b E'.keep) _ (fun ms' ps' σ' H' n E' => h4 _ H' _ n E'.keep .non) fun v ms' ps' σ' H' r hr E' hv => h4 v H' r hr E'.keep hv⟩
end
end Ct
namespace Ct
open PySem PySem.Spec PyProof.Rows L2 He

def aBP (a : TupB) : List PyData := [.tuple [ld a.1, ld a.2.1], pl a.2.2, ad org]
theorem aBP_inj (a b : TupB) (h : aBP a = aBP b) : a = b := by
  unfold aBP at h
  injection h with h1 h2
  injection h2 with h2 _
  injection h1 with h1
  injection h1 with h1 h4
  injection h4 with h4 _
  exact Prod.ext (ld_inj h1) (Prod.ext (ld_inj h4) (pl_inj h2))
def resOk (e : Except Nat (List A2)) (r : PyData) : Prop := ∃ zs, e = .ok zs ∧ r = ld zs
def resEx (e : Except Nat (List A2)) (k : Int) : Prop := ∃ n : Nat, e = .error n ∧ k = (n : Int)
abbrev spBuiltP (K : PySem.W.Frag) : Sp := SpE K (fun ds => ∃ a, ds = aBP a ∧ OkBP a) (fun ds r => ∃ a, ds = aBP a ∧ resOk (builtP a.2.2 a.1 a.2.1) r) (fun ds k => ∃ a, ds = aBP a ∧ resEx (builtP a.2.2 a.1 a.2.1) k)
theorem eqv_ll (a b c d : List A2) : PyData.eqv (.tuple [ld a, ld b]) (.tuple [ld c, ld d]) = (decide (a = c) && decide (b = d)) := by
  have e : PyData.eqv (.tuple [ld a, ld b]) (.tuple [ld c, ld d]) = (PyData.eqv (ld a) (ld c) && (PyData.eqv (ld b) (ld d) && true)) := by
    rw [PyData.eqv, PyData.eqvAll, PyData.eqvAll, PyData.eqvAll]
  rw [e, eqv_ld, eqv_ld, Bool.and_true]
theorem shaped_ll (a b : List A2) : SeqAt.shaped (.tuple [ld a, ld b]) = true := by
  have h1 := shaped_ld a
  have h2 := shaped_ld b
  have dep : ∀ a : List A2, (ld a).depth ≤ 3 := fun a => by
    have h2 : ∀ zs : List A2, PyData.depthAll (zs.map ad) ≤ 2 := fun zs => by
      induction zs with
      | nil => simp [PyData.depthAll]
      | cons z zs ih => rw [List.map_cons, PyData.depthAll, depth_ad]; omega
    show PyData.depth (.list _) ≤ 3
    rw [PyData.depth]; have := h2 a; omega
  unfold SeqAt.shaped at h1 h2 ⊢
  rw [Bool.and_eq_true] at h1 h2 ⊢
  refine ⟨?_, decide_eq_true ?_⟩
  · show PyData.canLay0 (.tuple [ld a, ld b]) = true
    rw [PyData.canLay0, PyData.canLayAll0, PyData.canLayAll0, PyData.canLayAll0, h1.1, h2.1]; rfl
  · have d1 := dep a
    have d2 := dep b
    show PyData.depth (.tuple [ld a, ld b]) ≤ 64
    rw [PyData.depth, PyData.depthAll, PyData.depthAll, PyData.depthAll]
    omega
section
variable {K : PySem.W.Frag} {ms : List Slot} {ta tb te : TE}
theorem e_neLL {a b c d : List A2} (ha : Ev K ta ms (· = .tuple [ld a, ld b])) (hb : Ev K tb ms (· = .tuple [ld c, ld d])) : Ev K (tOp (rNeD K) ta tb) ms (· = .bool (!(decide (a = c) && decide (b = d)))) :=
  ev_neD ha hb fun d1 d2 e1 e2 => by rw [e1, e2, eqv_ll]; exact ⟨shaped_ll a b, shaped_ll c d, rfl⟩
end
section
variable {P : Program} {w : World} {K : PySem.W.Frag} {mg : Str → Option Value} {base : Heap} {fI : Addr}
abbrev s_built : Stmt := topS 43
theorem sc_built : FnScope ["told", "weights", "start", "p", "q", "left", "found", "at", "heavy", "z"] ["told", "weights", "start"] (defScope s_built) := ⟨rfl, rfl, rfl, by decide +kernel, rfl, by decide +kernel, by decide +kernel⟩
/-- the def built is known -/
def OkE (P : Program) (w : World) (K : PySem.W.Frag) (mg : Str → Option Value) (base : Heap) (x : Str) (k : Nat) (ps : List Str) (dvs : List V) (sp : Sp) : Prop :=
  ∃ (fd : FuncData) (ds : List Value), FnOk P w K mg base (L2.CX P w) k (ga K x) fd ps sp ∧ Binds K fd ps ds ∧ Vals dvs ds ∧ mg x = some (.ref (ga K x)) ∧ PySem.W.keepIn K (.ref (ga K x)) = true
theorem ok_built (T : IsDefD K mg "built" s_built [] [("start", .ref (ga K "ORIGIN"))]) (U : UbC K mg fI) (ml : mg "len" = none) (mi : mg "list" = none) (me : mg "enumerate" = none) (hz : Con1 K mg "LONE" (ad lone)) (hs : OkD P w K mg base "summed" 36 ["one", "other"] [] (spSummed K))
    (hfr : OkD P w K mg base "first_arrow" 38 ["told", "heavy"] [] (spFirst K)) (hwo : OkD P w K mg base "without_first" 38 ["told", "z", "heavy"] [] (spWof K)) :
    OkE P w K mg base "built" 39 ["told", "weights", "start"] [.ref (ga K "ORIGIN")] (spBuiltP K) := by
  obtain ⟨m, fd, F⟩ := T
  obtain ⟨dv, r, b⟩ := F.binds0 (ps := ["told", "weights", "start"]) 2 (by simp) rfl fun D doc pm an cdv ct us ks hu hk => match us, ks, hu, hk with
    | [_, _], [_], _, _ => ⟨_, _, _, _, _, _, rfl, rfl, rfl⟩
  obtain ⟨fdI, FI, bI⟩ := ok_ubi (P := P) (w := w) (base := base) U
  refine ⟨fd, dv, ?_, b, r, m, F.kp⟩
  refine okE F sc_built (fun ds ⟨a, e, _⟩ => by rw [e]; rfl) fun cdv A outer s H E hr => ?_
  have hr6 : Room 36 (A.deeper (envOfC "built" (defScope s_built) s.heap.objs.size (ga K "built") cdv)) := hr.mono (by decide)
  have hr2 : Room (1 + 1) (A.deeper (envOfC "built" (defScope s_built) s.heap.objs.size (ga K "built") cdv)) := hr.mono (by decide)
  refine ⟨_,
    pss_cons (ps_asg (pv 0) (pg_tup rfl (pgs_cons (pg_name (i := 3) sc_built.nd rfl (.inl rfl)) (pgs_cons (pg_name (i := 4) sc_built.nd rfl (.inl rfl)) pgs_nil))))
    (pss_cons (ps_if (PW.pt (pw_or (pt_cmpR op_ne (pe_callB call_len_seq (by rfl) ml PySem.boot_len (pa_cons (pv 3) pa_nil)) (pe_op op_add (pe_callB call_len_seq (by rfl) ml PySem.boot_len (pa_cons (pv 1) pa_nil)) pe_int) (nomark _))
        (pw_or1 (pt_cmpR op_ne (pe_callB call_len_seq (by rfl) ml PySem.boot_len (pa_cons (pv 4) pa_nil)) (pe_callB call_len_seq (by rfl) ml PySem.boot_len (pa_cons (pv 1) pa_nil)) (nomark _)))))
        (pss_one (ps_raise rfl (takes_of rfl rfl rfl rfl) (pmk_oex U.o U.i U.t FI hr2 bI .nil pass0 (by rfl) U.m (pa_cons pe_int pa_nil)))) pss_nil)
    (pss_cons (ps_set (i := 5) sc_built.nd rfl (.inl rfl) (pe_tup (pa_cons (pe_callTy call_list_of (by rfl) mi (by decide +kernel) (pa_cons (pv 3) pa_nil)) (pa_cons (pe_callTy call_list_of (by rfl) mi (by decide +kernel) (pa_cons (pv 4) pa_nil)) pa_nil))))
    (pss_cons (ps_set (i := 6) sc_built.nd rfl (.inl rfl) (pe_lst (pa_cons (pv 2) pa_nil)))
    (pss_cons (ps_for (passes_of rfl) rfl (pi_enum (by rfl) me (pa_cons (pv 1) pa_nil)) (pg_tup rfl (pgs_cons (pg_name (i := 7) sc_built.nd rfl (.inl rfl)) (pgs_cons (pg_name (i := 8) sc_built.nd rfl (.inl rfl)) pgs_nil)))
      (pss_cons (ps_set (i := 9) sc_built.nd rfl (.inl rfl) (pe_fn hfr hr (pa_cons (pv 5) (pa_cons (pv 8) pa_nil))))
      (pss_cons (ps_if (pt_cmpR op_isN (pv 9) pe_non (nomark _)) (pss_one (ps_raise rfl (takes_of rfl rfl rfl rfl) (pmk_oex U.o U.i U.t FI hr2 bI .nil pass0 (by rfl) U.m (pa_cons (pv 7) pa_nil)))) pss_nil)
      (pss_cons (ps_expr (pe_bm PySem.F.plainAttrs_list PySem.F.slot_list_append PySem.F.type_list_append mt_append (pv 6) (pa_cons (pe_fn hs hr6 (pa_cons (pe_ix ix_list (pv 6) (pe_un un_neg pe_int) (fun _ _ => rfl)) (pa_cons (pv 9) pa_nil))) pa_nil)))
      (pss_one (ps_set (i := 5) sc_built.nd rfl (.inl rfl) (pe_fn hwo hr (pa_cons (pv 5) (pa_cons (pv 9) (pa_cons (pv 8) pa_nil))))))))))
    (pss_cons (ps_if (pt_cmpR (op_neD hr.units) (pv 5) (pe_tup (pa_cons (pe_lst (pa_cons (pe_con1 hz) pa_nil)) (pa_cons (pe_lst pa_nil) pa_nil))) (nomark _))
        (pss_one (ps_raise rfl (takes_of rfl rfl rfl rfl) (pmk_oex U.o U.i U.t FI hr2 bI .nil pass0 (by rfl) U.m (pa_cons (pe_callB call_len_seq (by rfl) ml PySem.boot_len (pa_cons (pv 1) pa_nil)) pa_nil)))) pss_nil)
    (pss_one (ps_ret (pv 6)))))))), ?_⟩
  rintro ds ⟨⟨p0, q0, ws⟩, rfl, o1, o2, o3⟩
  have o3 : ws.length ≤ 700 := o3
  have res : ∀ {r : PyData}, resOk (builtP ws p0 q0) r → ∃ a, aBP (p0, q0, ws) = aBP a ∧ resOk (builtP a.2.2 a.1 a.2.1) r := fun e => ⟨(p0, q0, ws), rfl, e⟩
  have ser : ∀ {k : Int}, resEx (builtP ws p0 q0) k → ∃ a, aBP (p0, q0, ws) = aBP a ∧ resEx (builtP a.2.2 a.1 a.2.1) k := fun e => ⟨(p0, q0, ws), rfl, e⟩
  refine gw_seq (N1 := fun ms => ms = [.d (.tuple [ld p0, ld q0]), .d (pl ws), .d (ad org), .d (ld p0), .d (ld q0), .no, .no, .no, .no, .no]) (gw_of (go_asg (ev_var (i := 0) rfl) fun d e => ⟨_, by subst e; exact tg_tup2, rfl⟩)) ?_
  rintro ms rfl
  by_cases hL : Lens ws p0 q0
  case neg =>
    refine gw_seq (N1 := fun _ => False) (gw_if (t_or (t_test (e_neI (e_lenL (ev_var (i := 3) rfl)) (e_add (e_lenP (ev_var (i := 1) rfl)) ev_int))) (t_test (e_neI (e_lenL (ev_var (i := 4) rfl)) (e_lenP (ev_var (i := 1) rfl))))) (fun _ => gw_raise ev_int (ser ⟨0, builtP_len hL, rfl⟩)) fun z => absurd z.symm ?_) fun m z => z.elim
    unfold Lens at hL
    simp only [Bool.or_eq_false_iff, Bool.not_eq_false', decide_eq_true_eq]
    omega
  have o1 : SzB mate restP srP ws p0 q0 := o1 hL
  have o2 : SzK mate restP org ws p0 q0 := o2 hL
  refine gw_seq (N1 := fun ms => ms = [.d (.tuple [ld p0, ld q0]), .d (pl ws), .d (ad org), .d (ld p0), .d (ld q0), .no, .no, .no, .no, .no]) (gw_if (t_or (t_test (e_neI (e_lenL (ev_var (i := 3) rfl)) (e_add (e_lenP (ev_var (i := 1) rfl)) ev_int))) (t_test (e_neI (e_lenL (ev_var (i := 4) rfl)) (e_lenP (ev_var (i := 1) rfl))))) (fun z => absurd z.symm ?_) fun _ => gw_of (go_next rfl)) ?_
  · unfold Lens at hL
    simp only [Bool.or_eq_true, Bool.not_eq_true', decide_eq_false_iff_not]
    omega
  rintro ms rfl
  refine gw_seq (N1 := fun ms => ms = [.d (.tuple [ld p0, ld q0]), .d (pl ws), .d (ad org), .d (ld p0), .d (ld q0), .d (.tuple [ld p0, ld q0]), .no, .no, .no, .no]) (gw_of (go_set (e_pair (x := ld p0) (y := ld q0) (EvN.ev (en_list (PL := (· = p0.map ad)) (ea_1 (ev_var (i := 3) rfl)) fun ds e => ⟨_, .inl e, rfl⟩) fun ds e => by rw [e]; rfl) (EvN.ev (en_list (PL := (· = q0.map ad)) (ea_1 (ev_var (i := 4) rfl)) fun ds e => ⟨_, .inl e, rfl⟩) fun ds e => by rw [e]; rfl)) fun d e => by rw [e]; rfl)) ?_
  rintro ms rfl
  refine gw_seq (N1 := fun ms => ms = [.d (.tuple [ld p0, ld q0]), .d (pl ws), .d (ad org), .d (ld p0), .d (ld q0), .d (.tuple [ld p0, ld q0]), .own [ad org], .no, .no, .no]) (gw_of (go_setO (en_lst (ea_1 (ev_var (i := 2) rfl)) fun ds e => by rw [e]; decide) fun ds e => by rw [e]; rfl)) ?_
  rintro ms rfl
  refine gw_seq (N1 := fun ms => ∃ zs p q x y z, ms = [.d (.tuple [ld p0, ld q0]), .d (pl ws), .d (ad org), .d (ld p0), .d (ld q0), .d (.tuple [ld p, ld q]), .own ((corners org zs).map ad), x, y, z] ∧ runB mate restP ws 0 p0 q0 = .ok (zs, p, q)) (gw_forE (ea_1 (ev_var (i := 1) rfl)) fun d e => ⟨ws.map pd,
    fun i ms => ∃ zs p q x y z, ms = [.d (.tuple [ld p0, ld q0]), .d (pl ws), .d (ad org), .d (ld p0), .d (ld q0), .d (.tuple [ld p, ld q]), .own ((corners org zs).map ad), x, y, z] ∧ pre zs (runB mate restP (ws.drop i) i p q) = runB mate restP ws 0 p0 q0 ∧ zs.length = i ∧ SzB mate restP srP (ws.drop i) p q ∧ SzK mate restP (cLast org zs) (ws.drop i) p q ∧ p.length + i = ws.length + 1,
    e, ⟨[], p0, q0, .no, .no, .no, rfl, pre_nil _, rfl, o1, o2, hL.1⟩, ?_, ?_⟩) ?_
  · rintro i x ms1 hix ⟨zs, p, q, x1, y1, z1, rfl, hp, hzl, hb, hk, hl⟩
    have hi : i < ws.length := by
      have := (List.getElem?_eq_some_iff.mp hix).1
      simpa using this
    have ex : x = pd ws[i] := by
      rw [List.getElem?_map, List.getElem?_eq_getElem hi] at hix
      exact (Option.some.inj hix).symm
    subst ex
    rw [List.drop_eq_getElem_cons hi] at hp hb hk
    obtain ⟨⟨b1, b2, b3⟩, b4⟩ := hb
    refine ⟨_, tg_tup2, ?_⟩
    refine gw_seq (N1 := fun ms => ms = [.d (.tuple [ld p0, ld q0]), .d (pl ws), .d (ad org), .d (ld p0), .d (ld q0), .d (.tuple [ld p, ld q]), .own ((corners org zs).map ad), .d (.int (i : Int)), .d (pd ws[i]), .d (optA (frontA mate (restP ws[i] p).1 (restP ws[i] p).2 (restP ws[i] q).1 (restP ws[i] q).2 ws[i]))])
      (gw_of (go_set (ca_X aTLP_inj (a := (p, q, ws[i])) (ea_2 (ev_var (i := 5) rfl) (ev_var (i := 8) rfl)) ⟨b1, b2, b3⟩) fun d e => by rw [e]; rfl)) ?_
    rintro ms rfl
    cases hf : frontA mate (restP ws[i] p).1 (restP ws[i] p).2 (restP ws[i] q).1 (restP ws[i] q).2 ws[i] with
    | none =>
      rw [runB_none hf] at hp
      exact gw_seq (N1 := fun _ => False) (gw_if (t_test (ev_isN (P := (· = .bool true)) (ev_var (i := 9) rfl) fun d e => by rw [e]; rfl)) (fun _ => gw_raise (ev_var (i := 7) rfl) (ser ⟨i, builtP_err hL hp.symm, rfl⟩)) fun z => by cases z) fun m z => z.elim
    | some z =>
      obtain ⟨b5, b6⟩ := b4 z hf
      obtain ⟨k1, k2, k3⟩ := hk z hf
      rw [runB_some hf, pre_pre] at hp
      refine gw_seq (N1 := fun ms => ms = [.d (.tuple [ld p0, ld q0]), .d (pl ws), .d (ad org), .d (ld p0), .d (ld q0), .d (.tuple [ld p, ld q]), .own ((corners org zs).map ad), .d (.int (i : Int)), .d (pd ws[i]), .d (ad z)]) (gw_if (t_test (ev_isN (P := (· = .bool false)) (ev_var (i := 9) rfl) fun d e => by rw [e]; rfl)) (fun z => by cases z) fun _ => gw_of (go_next rfl)) ?_
      rintro ms rfl
      refine gw_seq (N1 := fun ms => ms = [.d (.tuple [ld p0, ld q0]), .d (pl ws), .d (ad org), .d (ld p0), .d (ld q0), .d (.tuple [ld p, ld q]), .own ((corners org (zs ++ [z])).map ad), .d (.int (i : Int)), .d (pd ws[i]), .d (ad z)]) (gw_of (go_app (i := 6) rfl (by rw [List.length_map, corners_len]; omega) (ca_AA (ev_ixO (P := (· = ad (cLast org zs))) (i := 6) rfl (e_neg ev_int) fun d2 e2 => ⟨_, _, e2, by rw [corners_split, List.map_append]; exact atI_last _ _, rfl⟩) (ev_var (i := 9) rfl) ⟨k1, k2⟩) fun d e => by subst e; rw [corners_snoc, List.map_append]; rfl)) ?_
      rintro ms rfl
      refine gw_of (go_set (ca_X aWof_inj (a := (p, q, z, ws[i])) (ea_3 (ev_var (i := 5) rfl) (ev_var (i := 9) rfl) (ev_var (i := 8) rfl)) ⟨b5, by show p.length ≤ 800; omega⟩) fun d e => by
        subst e
        exact ⟨zs ++ [z], quot ws[i] (lows mate p q z), quot ws[i] (highs mate p q z), _, _, _, rfl, hp, by simp [hzl], b6, by rw [cLast_snoc]; exact k3, by rw [quot_len, lows_len]; omega⟩)
  · rintro ms1 ⟨zs, p, q, x, y, z, rfl, hp, hzl, _, _, _⟩
    have en : (ws.map pd).length = ws.length := List.length_map ..
    rw [en, List.drop_length, runB_nil] at hp
    have hp : Except.ok (zs ++ [], p, q) = runB mate restP ws 0 p0 q0 := hp
    rw [List.append_nil] at hp
    exact ⟨zs, p, q, x, y, z, rfl, hp.symm⟩
  rintro ms ⟨zs, p, q, x, y, z, rfl, hp⟩
  have eb := builtP_ok hL hp
  by_cases e1 : p = [lone] ∧ q = []
  case neg =>
    rw [if_neg e1] at eb
    refine gw_seq (N1 := fun _ => False) (gw_if (t_test (e_neLL (c := [lone]) (d := []) (ev_var (i := 5) rfl) (e_pair (ev_lst (ea_1 (ev_c hz.2)) fun ds e => by rw [e]; exact ⟨by simp, rfl⟩) (ev_lst ea_nil fun ds e => by rw [e]; exact ⟨by simp, rfl⟩)))) (fun _ => gw_raise (e_lenP (ev_var (i := 1) rfl)) (ser ⟨_, eb, rfl⟩)) fun z => absurd (by simpa using z.symm) e1) fun m z => z.elim
  rw [if_pos e1] at eb
  refine gw_seq (N1 := fun ms => ms = [.d (.tuple [ld p0, ld q0]), .d (pl ws), .d (ad org), .d (ld p0), .d (ld q0), .d (.tuple [ld p, ld q]), .own ((corners org zs).map ad), x, y, z]) (gw_if (t_test (e_neLL (c := [lone]) (d := []) (ev_var (i := 5) rfl) (e_pair (ev_lst (ea_1 (ev_c hz.2)) fun ds e => by rw [e]; exact ⟨by simp, rfl⟩) (ev_lst ea_nil fun ds e => by rw [e]; exact ⟨by simp, rfl⟩)))) (fun z => absurd e1 (by
    have z := z.symm
    simp only [Bool.not_eq_true', Bool.and_eq_false_iff, decide_eq_false_iff_not] at z
    exact fun hh => z.elim (fun n => n hh.1) fun n => n hh.2)) fun _ => gw_of (go_next rfl)) ?_
  rintro ms rfl
  exact gw_of (go_retO (i := 6) rfl (res ⟨_, eb, rfl⟩))
end
end Ct
namespace Ct
open PySem PySem.Spec PyProof.Rows L2 He

section
variable {K : PySem.W.Frag} {ms : List Slot} {ta tb te : TE} {t u : TT}
theorem t_and {a b : Bool} (h1 : EvT K t ms (· = a)) (h2 : EvT K u ms (· = b)) : EvT K (tAnd t u) ms (· = (a && b)) :=
  et_and h1 (fun _ => h2) (fun e => by rw [← e]; rfl) fun e b' e' => by rw [← e, e']; rfl
theorem e_lt {a b : Int} (ha : Ev K ta ms (· = .int a)) (hb : Ev K tb ms (· = .int b)) : Ev K (tOp (rI0 fun i j => .bl (decide (i < j))) ta tb) ms (· = .bool (decide (a < b))) := ev_B0 ha hb fun d1 d2 e1 e2 => ⟨a, b, e1, e2, rfl⟩
theorem e_modP {a b : Int} (ha : Ev K ta ms (· = .int a)) (hb : Ev K tb ms (· = .int b)) (h : 0 < b) : Ev K (tOp (rI (fun _ j => 0 < j) fun i j => .int (i % j)) ta tb) ms (· = .int (a % b)) :=
  ev_I ha hb fun d1 d2 e1 e2 => ⟨a, b, e1, e2, h, rfl⟩
theorem e_fdiv {a b : Int} (ha : Ev K ta ms (· = .int a)) (hb : Ev K tb ms (· = .int b)) (h : CDiv a b) : Ev K (tOp (rI CDiv fun i j => .int (i / j)) ta tb) ms (· = .int (a / b)) :=
  ev_I ha hb fun d1 d2 e1 e2 => ⟨a, b, e1, e2, h, rfl⟩
theorem e_pow {a b : Int} (ha : Ev K ta ms (· = .int a)) (hb : Ev K tb ms (· = .int b)) (h : CPow a b) : Ev K (tOp (rI CPow fun i j => .int (i ^ j.toNat)) ta tb) ms (· = .int (a ^ b.toNat)) :=
  ev_I ha hb fun d1 d2 e1 e2 => ⟨a, b, e1, e2, h, rfl⟩
theorem e_max2 {a b : Int} (ha : Ev K ta ms (· = .int a)) (hb : Ev K tb ms (· = .int b)) : Ev K (tCB (fun xs H Q => ∃ i j, xs = [.int i, .int j] ∧ Q (.int (if j > i then j else i)) H) (tCons ta (tCons tb tNil))) ms (· = .int (if b > a then b else a)) :=
  ev_cb (ea_2 ha hb) fun ps H xs ds Q _ p1 h1 k => by
    subst p1
    obtain ⟨v1, v2, rfl, h1, h2⟩ := pair_of h1
    exact ⟨a, b, by rw [dp_int h1, dp_int h2], k _ H _ rfl (Same.refl _) (.int _)⟩
end
/-- the box as a list -/
def bx (xs : List Int) (i c s n : Int) : List PyData := [.list (xs.map .int), .int i, .int c, .int s, .int n]
structure BxOk (xs : List Int) (i c s : Int) : Prop where
  i0 : 0 ≤ i
  i1 : i ≤ xs.length
  l : xs.length ≤ 63
  c0 : 0 ≤ c
  s0 : 0 ≤ s
  s1 : s < 2147483629
abbrev spDraw (K : PySem.W.Frag) : Sp := SpB K (fun ds => ∃ m : Int, ds = [.int m] ∧ 1 ≤ m ∧ m < 1073741824) (fun ds r => ∃ m k : Int, ds = [.int m] ∧ r = .int k ∧ 0 ≤ k ∧ k < m)
section
variable {P : Program} {w : World} {K : PySem.W.Frag} {mg : Str → Option Value} {base : Heap}
abbrev s_l_draw : Stmt := topS 58
theorem sc_l_draw : FnScope ["_law_box_here", "_law_many", "_law_cell", "_law_got"] ["_law_box_here", "_law_many"] (defScope s_l_draw) := ⟨rfl, rfl, rfl, by decide +kernel, rfl, by decide +kernel, by decide +kernel⟩
/-- an expression that changes nothing -/
def Rv (te : TE) (st : L2.St) (H : Hp) (v : V) : Prop := ∀ Q : VK, Q v H → te st H Q
section
variable {σ : L2.St} {H : Hp} {ta tb te : TE} {b : Addr} {vs : List V}
theorem rv_var {i : Nat} {v : V} (h : σ[i]? = some (some v)) : Rv (tVar i) σ H v := fun Q q => ⟨v, h, q⟩
theorem rv_c {v : V} : Rv (tC v) σ H v := fun Q q => q
theorem rv_I0 {g : Int → Int → V} {i j : Int} (ha : Rv ta σ H (.int i)) (hb : Rv tb σ H (.int j)) : Rv (tOp (rI0 g) ta tb) σ H (g i j) := fun Q q => ha _ (hb _ ⟨i, j, rfl, rfl, q⟩)
theorem rv_I {Cn : Int → Int → Prop} {g : Int → Int → V} {i j : Int} (ha : Rv ta σ H (.int i)) (hb : Rv tb σ H (.int j)) (c : Cn i j) : Rv (tOp (rI Cn g) ta tb) σ H (g i j) := fun Q q => ha _ (hb _ ⟨i, j, rfl, rfl, c, q⟩)
theorem rv_ix {k : Int} {v : V} (ha : Rv ta σ H (.ref b)) (hb : Rv tb σ H (.int k)) (hl : SqL K H b vs) (e : atI vs k = some v) : Rv (tOp (rIxL K) ta tb) σ H v := fun Q q => ha _ (hb _ ⟨b, vs, k, v, rfl, rfl, hl, e, q⟩)
theorem rv_len (ha : Rv ta σ H (.ref b)) (hl : SqL K H b vs) : Rv (tLen K (tCons ta tNil)) σ H (.int vs.length) := fun Q q => ha _ ⟨b, vs, rfl, .inl hl, q⟩
theorem rv_max {i j : Int} (ha : Rv ta σ H (.int i)) (hb : Rv tb σ H (.int j)) : Rv (tCB (fun xs H Q => ∃ i j, xs = [.int i, .int j] ∧ Q (.int (if j > i then j else i)) H) (tCons ta (tCons tb tNil))) σ H (.int (if j > i then j else i)) :=
  fun Q q => ha _ (hb _ ⟨i, j, rfl, q⟩)
theorem raw_set {k : Int} {j : Nat} {v : V} {D : Ends} (h : Rv te σ H v) (h0 : σ[0]? = some (some (.ref b))) (hb : H b = some (.lst vs)) (hk : ixN vs.length k = some j) (q : D.nx σ (upd H b (.lst (vs.set j v)))) : tAsg te (gSub (tVar 0) (tC (.int k)) rSetL) D σ H :=
  h _ ⟨.ref b, h0, b, vs, k, j, rfl, rfl, hb, hk, q⟩
theorem rq_seq {t u : TS} {D : Ends} (h : t { D with nx := u D } σ H) : tSeq t u D σ H := h
theorem rq_next {D : Ends} (h : D.nx σ H) : tNext D σ H := h
theorem raw_name {j : Nat} {v : V} {D : Ends} (h : Rv te σ H v) (q : D.nx (σ.set j (some v)) H) : tAsg te (gName j) D σ H := h _ q
end
/-- the box as it is in the machine -/
abbrev bv (sl : Addr) (i c s n : Int) : List V := [.ref sl, .int i, .int c, .int s, .int n]
theorem upd_upd {H : Hp} {b : Addr} {x y : HO} : upd (upd H b x) b y = upd H b y := by
  funext a
  by_cases h : a = b
  · subst h; rw [upd_same, upd_same]
  · rw [upd_ne h, upd_ne h, upd_ne h]
theorem upd_self {H : Hp} {b : Addr} {x : HO} (h : H b = some x) : upd H b x = H := by
  funext a
  by_cases e : a = b
  · subst e; rw [upd_same, h]
  · rw [upd_ne e]
theorem okB_draw {x : Str} {st : Stmt} {N ps : List Str} {k : Nat} (T : IsDef K mg x st) (S : FnScope N ps (defScope st)) (h2 : ps.length = 2)
    (bd : ∀ (kV doc pm : Value) (an : Option Addr) (cdv ct : Value) (us : List Value), us.length = ps.length → bindArgs (PySem.W.fnOf x x (defArgs st) (defBody st) (defScope st) .none kV doc pm an cdv ct) ⟨us, []⟩ = pure (ps.zip us))
    (hb : ∀ (cdv : Value) (A : Around) (outer : List Env) (s : Shared) (H : Hp) (E : XK), Room k (A.deeper (envOfC x (defScope st) s.heap.objs.size (ga K x) cdv)) →
      ∃ t, PSs (cxOf CX0 P w K mg base N x (defScope st) (ga K x) cdv A outer s H E).nox (defBody st) t ∧ ∀ (b sl : Addr) (xs : List Int) (i c s n m : Int), BxOk xs i c s → 1 ≤ m → m < 1073741824 → H b = some (.lst (bv sl i c s n)) → (∀ o, SqL K (upd H b o) sl (xs.map V.int)) →
        ∀ Q : VK, (∀ i c s n k, BxOk xs i c s → 0 ≤ k → k < m → Q (.int k) (upd H b (.lst (bv sl i c s n)))) → t { nx := fun _ H' => Q .non H', rt := Q } (L2.start N [.ref b, .int m]) H) : OkD P w K mg base x (k + 1) ps [] (spDraw K) := by
  obtain ⟨m, fd, F⟩ := T
  refine ⟨fd, [], ?_, F.bindsN bd, .nil, m, F.kp⟩
  refine F.ok S (fun vs H Q E h => ?_) (fun cdv A outer s H vs Q E hr h => ?_)
  · obtain ⟨b, ws, qs, ds, rfl, _, _, _, h3, ⟨m, rfl, _⟩, _⟩ := h
    rw [List.length_cons, dp_len h3, h2]; rfl
  · obtain ⟨b, ws, qs, ds, rfl, hbq, h1, hx, h3, ⟨m, rfl, m1, m2⟩, h4⟩ := h
    obtain ⟨t, ht, go⟩ := hb cdv A outer s H E hr
    obtain ⟨sl, xs, i, c, s', n, q1, q2, i0, i1, l, c0, s0, s1⟩ := id hx
    cases h3 with
    | cons h5 h6 =>
      cases h6
      rw [dp_int h5]
      refine ⟨t, ht.nox, go b sl xs i c s' n m ⟨i0, i1, l, c0, s0, s1⟩ m1 m2 q1 (fun o => ?_) Q fun i2 c2 s2 n2 k ok k0 k1 => ?_⟩
      · have e := q2
        rw [← hides_upd (o := o) hbq] at e
        exact (hides_le _ _).seq e
      · refine h4 (.int k) _ (.int k) ⟨m, k, rfl, rfl, k0, k1⟩ ?_ ⟨sl, xs, i2, c2, s2, n2, upd_same, ?_, ok.i0, ok.i1, ok.l, ok.c0, ok.s0, ok.s1⟩ (.int k)
        · rw [hides_upd (by simp)]; exact Same.refl _
        · rw [hides_upd hbq]; exact q2
theorem at5_1 {sl : Addr} {i c s n : Int} : atI (bv sl i c s n) 1 = some (.int i) := rfl
theorem at5_2 {sl : Addr} {i c s n : Int} : atI (bv sl i c s n) 2 = some (.int c) := rfl
theorem at5_3 {sl : Addr} {i c s n : Int} : atI (bv sl i c s n) 3 = some (.int s) := rfl
theorem at5_4 {sl : Addr} {i c s n : Int} : atI (bv sl i c s n) 4 = some (.int n) := rfl
theorem at5_0 {sl : Addr} {i c s n : Int} : atI (bv sl i c s n) 0 = some (.ref sl) := rfl
theorem ok_l_draw (T : IsDef K mg "_law_draw" s_l_draw) (ml : mg "len" = none) (mx : mg "max" = none) : OkD P w K mg base "_law_draw" 33 ["_law_box_here", "_law_many"] [] (spDraw K) := by
  refine okB_draw (k := 32) T sc_l_draw rfl (fun _ _ _ _ _ _ us hl => match us, hl with | [_, _], _ => rfl) fun cdv A outer s H E hr => ⟨_,
    pss_cons (ps_if (PW.pt (pw_and (pt_cmpR op_lt (pe_ix ix_list (pv 0) pe_int (fun _ _ => rfl)) pe_int (nomark _)) (pw_and1 (pt_cmpR op_lt (pe_ix ix_list (pv 0) pe_int (fun _ _ => rfl)) (pe_callB call_len_seq (by rfl) ml PySem.boot_len (pa_cons (pe_ix ix_list (pv 0) pe_int (fun _ _ => rfl)) pa_nil)) (nomark _)))))
      (pss_cons (ps_set (i := 2) sc_l_draw.nd rfl (.inl rfl) (pe_ix ix_list (pe_ix ix_list (pv 0) pe_int (fun _ _ => rfl)) (pe_ix ix_list (pv 0) pe_int (fun _ _ => rfl)) (fun _ _ => rfl)))
      (pss_cons (ps_asg (pe_op op_add (pe_ix ix_list (pv 0) pe_int (fun _ _ => rfl)) pe_int) (pg_sub (pv 0) pe_int set_list))
      (pss_cons (ps_asg (pe_callB (call_max2 rfl) (by rfl) mx (by decide +kernel) (pa_cons pe_int (pa_cons (pe_op op_sub (pv 2) (pe_op op_pow pe_int pe_int)) pa_nil))) (pg_sub (pv 0) pe_int set_list))
      (pss_one (ps_asg (pe_op op_mod (pe_op op_add (pe_op op_add (pe_op op_mul (pe_ix ix_list (pv 0) pe_int (fun _ _ => rfl)) pe_int) (pe_op op_mul (pe_op op_mod (pv 2) pe_int) pe_int)) pe_int) pe_int) (pg_sub (pv 0) pe_int set_list)))))) pss_nil)
    (pss_cons (ps_if (pt_cmpR op_gt (pe_ix ix_list (pv 0) pe_int (fun _ _ => rfl)) pe_int (nomark _))
      (pss_cons (ps_set (i := 3) sc_l_draw.nd rfl (.inl rfl) (pe_op op_mod (pe_ix ix_list (pv 0) pe_int (fun _ _ => rfl)) (pv 1)))
      (pss_cons (ps_asg (pe_op op_fdiv (pe_ix ix_list (pv 0) pe_int (fun _ _ => rfl)) (pv 1)) (pg_sub (pv 0) pe_int set_list))
      (pss_one (ps_ret (pv 3))))) pss_nil)
    (pss_cons (ps_asg (pe_op op_add (pe_ix ix_list (pv 0) pe_int (fun _ _ => rfl)) pe_int) (pg_sub (pv 0) pe_int set_list))
    (pss_cons (ps_asg (pe_op op_mod (pe_op op_add (pe_op op_add (pe_op op_pow (pe_ix ix_list (pv 0) pe_int (fun _ _ => rfl)) pe_int) (pe_op op_mul pe_int (pe_ix ix_list (pv 0) pe_int (fun _ _ => rfl)))) pe_int) pe_int) (pg_sub (pv 0) pe_int set_list))
    (pss_one (ps_ret (pe_op op_mod (pe_op op_fdiv (pe_ix ix_list (pv 0) pe_int (fun _ _ => rfl)) pe_int) (pv 1))))))), ?_⟩
  intro b sl xs i c s n m ok m1 m2 hb hsl Q k
  have L : ∀ {H : Hp} {vs : List V}, H b = some (.lst vs) → SqL K H b vs := fun h => .inl (.inl h)
  -- the second half
  have part2 : ∀ (σ : L2.St) (i c s n : Int), BxOk xs i c s → σ[0]? = some (some (.ref b)) → σ[1]? = some (some (.int m)) → σ.length = 4 →
      (tSeq (tIfS (tTest (tOp (rI0 fun i j => .bl (decide (j < i))) (tOp (rIxL K) (tVar 0) (tC (.int 2))) (tC (.int 0))))
        (tSeq (tAsg (tOp (rI (fun _ j => 0 < j) fun i j => .int (i % j)) (tOp (rIxL K) (tVar 0) (tC (.int 2))) (tVar 1)) (gName 3))
        (tSeq (tAsg (tOp (rI CDiv fun i j => .int (i / j)) (tOp (rIxL K) (tVar 0) (tC (.int 2))) (tVar 1)) (gSub (tVar 0) (tC (.int 2)) rSetL)) (tSeq (tRet (tVar 3)) tNext))) tNext)
      (tSeq (tAsg (tOp (rI0 fun i j => .int (i + j)) (tOp (rIxL K) (tVar 0) (tC (.int 4))) (tC (.int 1))) (gSub (tVar 0) (tC (.int 4)) rSetL))
      (tSeq (tAsg (tOp (rI (fun _ j => 0 < j) fun i j => .int (i % j)) (tOp (rI0 fun i j => .int (i + j)) (tOp (rI0 fun i j => .int (i + j)) (tOp (rI CPow fun i j => .int (i ^ j.toNat)) (tOp (rIxL K) (tVar 0) (tC (.int 3))) (tC (.int 3))) (tOp (rI CMul fun i j => .int (i * j)) (tC (.int 69621)) (tOp (rIxL K) (tVar 0) (tC (.int 4))))) (tC (.int 9453))) (tC (.int 2147483629))) (gSub (tVar 0) (tC (.int 3)) rSetL))
      (tSeq (tRet (tOp (rI (fun _ j => 0 < j) fun i j => .int (i % j)) (tOp (rI CDiv fun i j => .int (i / j)) (tOp (rIxL K) (tVar 0) (tC (.int 3))) (tC (.int 64))) (tVar 1))) tNext)))) { nx := fun _ H' => Q .non H', rt := Q } σ (upd H b (.lst (bv sl i c s n))) := by
    intro σ i c s n ok h0 h1 hlen
    have V0 : ∀ {H : Hp}, Rv (tVar 0) σ H (.ref b) := rv_var h0
    have V1 : ∀ {H : Hp}, Rv (tVar 1) σ H (.int m) := rv_var h1
    refine rv_I0 (rv_ix V0 rv_c (L upd_same) at5_2) rv_c _ ⟨_, rfl, ?_⟩
    by_cases hc : (0 : Int) < c
    · rw [decide_eq_true hc]
      refine iteT (raw_name (rv_I (rv_ix V0 rv_c (L upd_same) at5_2) V1 (by omega)) ?_)
      refine raw_set (j := 2) (rv_I (rv_ix (rv_var (by rw [List.getElem?_set_ne (by decide)]; exact h0)) rv_c (L upd_same) at5_2) (rv_var (by rw [List.getElem?_set_ne (by decide)]; exact h1)) ⟨by omega, m2⟩) (by rw [List.getElem?_set_ne (by decide)]; exact h0) upd_same rfl ?_
      refine ⟨.int (c % m), by rw [List.getElem?_set_self (by omega)], ?_⟩
      rw [upd_upd]
      exact k i (c / m) s n (c % m) ⟨ok.i0, ok.i1, ok.l, Int.ediv_nonneg ok.c0 (by omega), ok.s0, ok.s1⟩ (Int.emod_nonneg _ (by omega)) (Int.emod_lt_of_pos _ (by omega))
    · rw [decide_eq_false hc]
      refine iteF ?_
      dsimp only [tSeq, tNext]
      refine raw_set (j := 4) (rv_I0 (rv_ix V0 rv_c (L upd_same) at5_4) rv_c) h0 upd_same rfl ?_
      rw [upd_upd]
      have s2 : s.natAbs < 2 ^ 64 := by
        have a := ok.s0
        have b := ok.s1
        have : (2 : Nat) ^ 64 = 18446744073709551616 := by decide
        omega
      dsimp only [tSeq, tNext]
      refine raw_set (j := 3) (rv_I (Cn := fun _ j => 0 < j) (rv_I0 (rv_I0 (rv_I (Cn := CPow) (j := 3) (rv_ix V0 rv_c (L upd_same) at5_3) rv_c ⟨by decide, by decide, s2⟩) (rv_I (Cn := CMul) (i := 69621) rv_c (rv_ix V0 rv_c (L upd_same) at5_4) (.inl (by decide)))) rv_c) (j := 2147483629) rv_c (by decide)) h0 upd_same rfl ?_
      rw [upd_upd]
      refine rv_I (Cn := fun _ j => 0 < j) (g := fun i j => .int (i % j)) (rv_I (Cn := CDiv) (g := fun i j => .int (i / j)) (j := 64) (rv_ix V0 rv_c (L upd_same) at5_3) rv_c ⟨by decide, by decide⟩) V1 (show (0 : Int) < m by omega) _ ?_
      exact k i c _ (n + 1) _ ⟨ok.i0, ok.i1, ok.l, ok.c0, Int.emod_nonneg _ (by decide), Int.emod_lt_of_pos _ (by decide)⟩ (Int.emod_nonneg _ (by omega)) (Int.emod_lt_of_pos _ (by omega))
  have h0 : (L2.start ["_law_box_here", "_law_many", "_law_cell", "_law_got"] [V.ref b, .int m])[0]? = some (some (.ref b)) := rfl
  have h1 : (L2.start ["_law_box_here", "_law_many", "_law_cell", "_law_got"] [V.ref b, .int m])[1]? = some (some (.int m)) := rfl
  have hS : SqL K H sl (xs.map V.int) := by
    have e := hsl (.lst (bv sl i c s n))
    rwa [upd_self hb] at e
  have p2 := part2 (L2.start ["_law_box_here", "_law_many", "_law_cell", "_law_got"] [V.ref b, .int m]) i c s n ok h0 h1 rfl
  rw [upd_self hb] at p2
  refine rv_I0 (rv_ix (rv_var h0) rv_c (L hb) at5_2) rv_c _ ⟨_, rfl, ?_⟩
  by_cases hc : c < 1
  case neg =>
    rw [decide_eq_false hc]
    exact iteF (B := _) (iteF p2)
  rw [decide_eq_true hc]
  refine iteT (rv_I0 (rv_ix (rv_var h0) rv_c (L hb) at5_1) (rv_len (rv_ix (rv_var h0) rv_c (L hb) at5_0) hS) _ ⟨_, rfl, ?_⟩)
  rw [List.length_map]
  by_cases hi : i < (xs.length : Int)
  case neg =>
    rw [decide_eq_false hi]
    exact iteF p2
  rw [decide_eq_true hi]
  refine iteT ?_
  have i0 := ok.i0
  have hil : i.toNat < xs.length := by omega
  have hat : atI (xs.map V.int) i = some (.int xs[i.toNat]) := atI_pos i0 (by rw [List.getElem?_map, List.getElem?_eq_getElem hil]; rfl)
  refine raw_name (rv_ix (rv_ix (rv_var h0) rv_c (L hb) at5_0) (rv_ix (rv_var h0) rv_c (L hb) at5_1) hS hat) ?_
  generalize hcell : xs[i.toNat] = cell
  have g0 : ((L2.start ["_law_box_here", "_law_many", "_law_cell", "_law_got"] [V.ref b, .int m]).set 2 (some (.int cell)))[0]? = some (some (.ref b)) := rfl
  have g1 : ((L2.start ["_law_box_here", "_law_many", "_law_cell", "_law_got"] [V.ref b, .int m]).set 2 (some (.int cell)))[1]? = some (some (.int m)) := rfl
  have g2 : ((L2.start ["_law_box_here", "_law_many", "_law_cell", "_law_got"] [V.ref b, .int m]).set 2 (some (.int cell)))[2]? = some (some (.int cell)) := rfl
  dsimp only [tSeq, tNext]
  refine raw_set (j := 1) (rv_I0 (rv_ix (rv_var g0) rv_c (L hb) at5_1) rv_c) g0 hb rfl ?_
  dsimp only [tSeq, tNext]
  refine raw_set (j := 2) (rv_max rv_c (rv_I0 (rv_var g2) (rv_I (Cn := CPow) (i := 10) (j := 18) rv_c rv_c ⟨by decide, by decide, by decide⟩))) g0 upd_same rfl ?_
  rw [upd_upd]
  dsimp only [tSeq, tNext]
  refine raw_set (j := 3) (rv_I (Cn := fun _ j => 0 < j) (rv_I0 (rv_I0 (rv_I (Cn := CMul) (j := 48271) (rv_ix (rv_var g0) rv_c (L upd_same) at5_3) rv_c (.inr (by decide))) (rv_I (Cn := CMul) (j := 7) (rv_I (Cn := fun _ j => 0 < j) (j := 2147483629) (rv_var g2) rv_c (by decide)) rv_c (.inr (by decide)))) rv_c) (j := 2147483629) rv_c (by decide)) g0 upd_same rfl ?_
  rw [upd_upd]
  exact part2 _ _ _ _ _ ⟨by omega, by omega, ok.l, by split <;> omega, Int.emod_nonneg _ (by decide), Int.emod_lt_of_pos _ (by decide)⟩ g0 g1 rfl
end
end Ct
namespace Ct
open PySem PySem.Spec PyProof.Rows L2 He

/-! ### list + list, of lists that are told; str * int; slices -/
def rCatL (K : PySem.W.Frag) : R2 := fun x y H Q => ∃ l b xs zs, x = .ref l ∧ y = .ref b ∧ SqL K H l xs ∧ SqL K H b zs ∧ xs.length + zs.length ≤ sizeLine ∧ ∀ p, H p = none → Q (.ref p) (upd H p (.lst (xs ++ zs)))
theorem op_catL {X : Cx} : OpR X (binaryOp .Add) (rCatL X.K) := by
  intro pins s σ H x y v u Q I rx ry h
  obtain ⟨l, b, xs, zs, rfl, rfl, hH, hB, hz, q⟩ := h
  cases rx
  cases ry
  obtain ⟨its, r, ⟨o, n, e, hc, hd, hs⟩, hl⟩ := I.list hH
  obtain ⟨its2, r2, ⟨o2, n2, e2, hc2, hd2, hs2⟩, hl2⟩ := I.list hB
  obtain ⟨cls, dd, data, sl⟩ := o
  obtain ⟨cls2, dd2, data2, sl2⟩ := o2
  simp only at hc hd hs hc2 hd2 hs2
  subst hc hd hs hc2 hd2 hs2
  have q1 := r.length
  have q2 := r2.length
  have ea : its.toArray ++ its2.toArray = (its ++ its2).toArray := by simp
  refine concat_meets ⟨_, e, rfl⟩ ⟨_, e2, rfl⟩ noFill_list_add seq_list_add PySem.F.slot_list_add PySem.F.entry_list_add (PySem.F.args_list_add_2 _ _) (list_addW l b its.toArray its2.toArray n n2 none none sl sl2 (by rw [List.size_toArray, List.size_toArray]; omega)) ⟨e, e2, ?_⟩
  rw [ea]
  exact ⟨.ref _, _, I.lnew (t' := s.toks) (r.append r2) (by rw [List.length_append]; omega), rfl, q _ I.fresh⟩
/-- a text times 0 or 1 -/
def rStr01 : R2 := fun x y H Q => ∃ (a : Str) (k : Int), x = .str a ∧ y = .int k ∧ ((k = 0 ∧ Q (.str Str.empty) H) ∨ (k = 1 ∧ Q (.str a) H))
theorem op_str01 {X : Cx} : OpR X (binaryOp .Mult) rStr01 := by
  intro pins s σ H x y v u Q I rx ry h
  obtain ⟨a, k, rfl, rfl, h⟩ := h
  obtain ⟨t, rfl⟩ := rx
  obtain ⟨t', rfl⟩ := ry
  rcases h with ⟨rfl, q⟩ | ⟨rfl, q⟩
  · exact PySem.P.mul_str_none (by decide) (by decide) ⟨.str Str.empty, H, I.tok _, ⟨_, rfl⟩, q⟩
  · refine PySem.P.mul_str (by decide) (fun _ z => by simp at z) (fun _ z => by simp at z) ?_
    rw [if_neg (by decide), if_pos (by simp)]
    exact ⟨.str a, H, I, ⟨t, rfl⟩, q⟩
/-- what a slice takes of a list -/
def cutD {α : Type} (xs : List α) (lo hi : Option Int) : List α := (xs.drop (HT.sIx xs.length 0 lo)).take (HT.sIx xs.length xs.length hi - HT.sIx xs.length 0 lo)
theorem cut_to {α : Type} {xs : List α} {k : Nat} (h : k ≤ xs.length) : cutD xs none (some (k : Int)) = xs.take k := by
  unfold cutD
  rw [HT.sIx_none, HT.sIx_nat, Nat.min_eq_left h]
  simp
theorem cut_from {α : Type} {xs : List α} {k : Nat} (h : k ≤ xs.length) : cutD xs (some (k : Int)) none = xs.drop k := by
  unfold cutD
  rw [HT.sIx_none, HT.sIx_nat, Nat.min_eq_left h]
  exact List.take_of_length_le (by simp)
theorem cut_last {α : Type} {xs : List α} : cutD xs none (some (-1)) = xs.dropLast := by
  unfold cutD
  have e : HT.sIx xs.length xs.length (some (-1)) = xs.length - 1 := by
    show (if (-1 : Int) < 0 then ((-1 : Int) + (xs.length : Int)).toNat else min (-1 : Int).toNat xs.length) = _
    rw [if_pos (by decide)]
    omega
  rw [HT.sIx_none, e, List.dropLast_eq_take]
  simp
theorem cut_map {α β : Type} (f : α → β) (xs : List α) (lo hi : Option Int) : cutD (xs.map f) lo hi = (cutD xs lo hi).map f := by
  unfold cutD
  rw [List.length_map, List.map_take, List.map_drop]
section
variable {K : PySem.W.Frag} {ms : List Slot} {ta tb te : TE} {al : TA} {P P1 : PyData → Prop} {PL : List PyData → Prop} {tl th : TO}
theorem eo_none : EvO K tNoPart ms (· = none) := fun C B p0 ps σ H E Q k => k none H rfl E
theorem eo_some {i : Int} (h : Ev K te ms (· = .int i)) : EvO K (tPart te) ms (· = some i) := fun C B p0 ps σ H E Q k =>
  h.run E fun v H1 d p E1 s1 hd => ⟨i, dp_int (p ▸ hd), k _ H1 rfl E1⟩
theorem en_sl {xs : List PyData} {lo hi : Option Int} (h : Ev K te ms (· = .list xs)) (h1 : EvO K tl ms (· = lo)) (h2 : EvO K th ms (· = hi)) : EvN K (tSl (rSlL K) te tl th) ms (· = cutD xs lo hi) := fun C B p0 ps σ H E Q k =>
  h.run E fun v H1 d p E1 s1 hd => h1.run E1 fun l H2 pl E2 s2 => h2.run E2 fun u H3 pu E3 s3 => by
    subst p pl pu
    obtain ⟨a, vs, rfl, ha, hv⟩ := dp_list (hd.to (s2.trans s3))
    refine ⟨a, vs, rfl, (hides_le _ _).seq ha, fun q hq => ?_⟩
    obtain ⟨f, a1, b, c, d, e⟩ := own_of (ys := cutV vs l u) E3 hq
    refine k q _ _ _ rfl upd_same f a1 b c e (DpAll.to ?_ d)
    unfold cutV cutD
    rw [dp_len hv]
    exact dp_take _ (dp_drop _ hv)
theorem en_catL {xs zs : List PyData} (ha : Ev K ta ms (· = .list xs)) (hb : Ev K tb ms (· = .list zs)) (hz : xs.length + zs.length ≤ 1000) : EvN K (tOp (rCatL K) ta tb) ms (· = xs ++ zs) := fun C B p0 ps σ H E Q k =>
  ha.run E fun v H1 d p E1 s1 hd => hb.run E1 fun u H2 e p2 E2 s2 he => by
    subst p p2
    obtain ⟨a, vs, rfl, h1, hv⟩ := dp_list (hd.to s2)
    obtain ⟨b, ws, rfl, h2, hw⟩ := dp_list he
    refine ⟨a, b, vs, ws, rfl, rfl, (hides_le _ _).seq h1, (hides_le _ _).seq h2, by rw [dp_len hv, dp_len hw]; exact Nat.le_of_lt (small1000 hz), fun q hq => ?_⟩
    obtain ⟨f, a1, b1, c, d, e⟩ := own_of (ys := vs ++ ws) E2 hq
    exact k q _ _ _ rfl upd_same f a1 b1 c e ((dp_app hv hw).to d)
theorem e_cat {xs zs : List PyData} (ha : Ev K ta ms (· = .list xs)) (hb : Ev K tb ms (· = .list zs)) (hz : xs.length + zs.length ≤ 1000) : Ev K (tOp (rCatL K) ta tb) ms (· = .list (xs ++ zs)) := EvN.ev (en_catL ha hb hz) fun ds e => by rw [e]
theorem e_sl {xs : List PyData} {lo hi : Option Int} (h : Ev K te ms (· = .list xs)) (h1 : EvO K tl ms (· = lo)) (h2 : EvO K th ms (· = hi)) : Ev K (tSl (rSlL K) te tl th) ms (· = .list (cutD xs lo hi)) := EvN.ev (en_sl h h1 h2) fun ds e => by rw [e]
end
/-! ### of -/
abbrev spOf (K : PySem.W.Frag) : Sp := SpB K (fun ds => ∃ xs, ds = [.list xs] ∧ 1 ≤ xs.length ∧ xs.length ≤ 1000) (fun ds r => ∃ xs, ds = [.list xs] ∧ r ∈ xs)
abbrev spSmall (K : PySem.W.Frag) : Sp := SpB K (fun ds => ds = []) (fun ds r => ∃ x, r = pd x ∧ SmQ x)
abbrev spSpot (K : PySem.W.Frag) : Sp := SpB K (fun ds => ds = []) (fun ds r => ∃ x, r = ad x ∧ SmA x)
section
variable {K : PySem.W.Frag} {ms : List Slot} {ta tb te : TE} {al : TA} {b : Addr} {i : Nat}
theorem ca_draw {m : Int} (hi : ms[i]? = some (.box b)) (h : Ev K te ms (· = .int m)) (m1 : 1 ≤ m) (m2 : m < 1073741824) : Ev K (tCall (spDraw K) [] E0 (tCons (tVar i) (tCons te tNil))) ms (fun d => ∃ k : Int, d = .int k ∧ 0 ≤ k ∧ k < m) :=
  ev_callB hi (ea_1 h) fun ds e => by
    subst e
    refine ⟨⟨m, rfl, m1, m2⟩, fun r ⟨m', k, e, h1, h2, h3⟩ => ⟨k, h1, h2, ?_⟩⟩
    injection e with e _
    injection e with e
    omega
theorem ca_of {xs : List PyData} (hi : ms[i]? = some (.box b)) (h : Ev K te ms (· = .list xs)) (l1 : 1 ≤ xs.length) (l2 : xs.length ≤ 1000) : Ev K (tCall (spOf K) [] E0 (tCons (tVar i) (tCons te tNil))) ms (· ∈ xs) :=
  ev_callB hi (ea_1 h) fun ds e => by
    subst e
    refine ⟨⟨xs, rfl, l1, l2⟩, fun r ⟨ys, e, h⟩ => ?_⟩
    injection e with e _
    injection e with e
    rw [e]; exact h
theorem ca_box0 {P R : PyData → Prop} (hi : ms[i]? = some (.box b)) (w : ∀ d, R d → P d) : Ev K (tCall (SpB K (fun ds => ds = []) (fun ds r => R r)) [] E0 (tCons (tVar i) tNil)) ms P :=
  ev_callB hi ea_nil fun ds e => ⟨e, fun r hr => w r hr⟩
end
section
variable {P : Program} {w : World} {K : PySem.W.Frag} {mg : Str → Option Value} {base : Heap}
abbrev s_l_of : Stmt := topS 59
theorem sc_l_of : FnScope ["_law_box_here", "_law_some"] ["_law_box_here", "_law_some"] (defScope s_l_of) := ⟨rfl, rfl, rfl, by decide +kernel, rfl, by decide +kernel, by decide +kernel⟩
theorem ok_l_of (T : IsDef K mg "_law_of" s_l_of) (ml : mg "len" = none) (hd : OkD P w K mg base "_law_draw" 33 ["_law_box_here", "_law_many"] [] (spDraw K)) : OkD P w K mg base "_law_of" 34 ["_law_box_here", "_law_some"] [] (spOf K) := by
  refine okB T sc_l_of (fun _ _ _ _ _ _ us hl => match us, hl with | [_, _], _ => rfl) (fun ds ⟨xs, e, _⟩ => by rw [e]; rfl) fun cdv A outer s H E hr => ⟨_,
    pss_one (ps_ret (pe_ix ix_list (pv 1) (pe_fn hd hr (pa_cons (pv 0) (pa_cons (pe_callB call_len_seq (by rfl) ml PySem.boot_len (pa_cons (pv 1) pa_nil)) pa_nil))) (fun _ _ => rfl))), ?_⟩
  rintro b ds ⟨xs, rfl, l1, l2⟩
  refine go_ret (ev_ixL (P := (· ∈ xs)) (ev_var (i := 1) rfl) (ca_draw (i := 0) (m := (xs.length : Int)) rfl (e_len (ev_var (i := 1) rfl)) (by omega) (by omega)) fun d1 d2 e1 e2 => ?_) fun d e => ⟨rfl, xs, rfl, e⟩
  obtain ⟨k, rfl, k0, k1⟩ := e2
  have hk : k.toNat < xs.length := by omega
  exact ⟨xs, k, xs[k.toNat], e1, rfl, atI_pos k0 (List.getElem?_eq_getElem hk), List.getElem_mem hk⟩
/-! ### small -/
abbrev s_l_small : Stmt := topS 60
theorem sc_l_small : FnScope ["_law_box_here"] ["_law_box_here"] (defScope s_l_small) := ⟨rfl, rfl, rfl, by decide +kernel, rfl, by decide +kernel, by decide +kernel⟩
theorem ok_l_small (T : IsDef K mg "_law_small" s_l_small) (hl : OkD P w K mg base "_law_low" 34 ["_law_above", "_law_beneath"] [] (spLow K)) (hd : OkD P w K mg base "_law_draw" 33 ["_law_box_here", "_law_many"] [] (spDraw K))
    (ho : OkD P w K mg base "_law_of" 34 ["_law_box_here", "_law_some"] [] (spOf K)) : OkD P w K mg base "_law_small" 35 ["_law_box_here"] [] (spSmall K) := by
  refine okB T sc_l_small (fun _ _ _ _ _ _ us hl => match us, hl with | [_], _ => rfl) (fun ds e => by rw [e]; rfl) fun cdv A outer s H E hr => ⟨_,
    pss_one (ps_ret (pe_fn hl hr (pa_cons (pe_op op_sub (pe_fn hd (hr.mono (by decide)) (pa_cons (pv 0) (pa_cons pe_int pa_nil))) pe_int) (pa_cons (pe_fn ho hr (pa_cons (pv 0) (pa_cons (pe_lst (pa_cons pe_int (pa_cons pe_int (pa_cons pe_int (pa_cons pe_int (pa_cons pe_int pa_nil)))))) pa_nil))) pa_nil)))), ?_⟩
  rintro b ds rfl
  have hlit : ∀ {ms : List Slot}, EvA K (tCons (tC (.int 1)) (tCons (tC (.int 1)) (tCons (tC (.int 1)) (tCons (tC (.int 2)) (tCons (tC (.int 3)) tNil))))) ms (· = [.int 1, .int 1, .int 1, .int 2, .int 3]) := fun {ms} =>
    (ea_cons ev_int (ea_cons ev_int (ea_3 ev_int ev_int ev_int))).weak fun ds ⟨d, r, e1, e2, d', r', e3, e4, e5⟩ => by rw [e1, e2, e3, e4, e5]
  refine go_ret (ev_call (P := fun d => ∃ x, d = pd x ∧ SmQ x) (ea_cons (P := fun d => ∃ k : Int, d = .int k ∧ -6 ≤ k ∧ k ≤ 6) (ev_I0 (ca_draw (i := 0) (m := 13) rfl ev_int (by decide) (by decide)) ev_int fun d1 d2 ⟨k, e1, k0, k1⟩ e2 => ⟨k, 6, e1, e2, k - 6, rfl, by omega, by omega⟩)
    (ea_cons (P := fun d => d ∈ [PyData.int 1, .int 1, .int 1, .int 2, .int 3]) (ca_of (i := 0) rfl (ev_lst hlit fun ds e => by rw [e]; exact ⟨by decide, rfl⟩) (by decide) (by decide)) ea_nil)) ?_) fun d e => ⟨rfl, e⟩
  rintro ds ⟨d, r, rfl, ⟨k, rfl, k0, k1⟩, d2, r2, rfl, hm, rfl⟩
  have h3 : ∃ m : Int, d2 = .int m ∧ 1 ≤ m ∧ m ≤ 3 := by
    simp only [List.mem_cons, List.not_mem_nil, or_false] at hm
    rcases hm with h | h | h | h | h <;> exact ⟨_, h, by decide, by decide⟩
  obtain ⟨m, rfl, m0, m1⟩ := h3
  exact ⟨⟨k, m, rfl, by omega⟩, fun r hr => ⟨low k m, hr.out, k, m, k0, k1, m0, m1, rfl⟩⟩
/-! ### spot -/
abbrev s_l_spot : Stmt := topS 61
theorem sc_l_spot : FnScope ["_law_box_here"] ["_law_box_here"] (defScope s_l_spot) := ⟨rfl, rfl, rfl, by decide +kernel, rfl, by decide +kernel, by decide +kernel⟩
theorem ok_l_spot (T : IsDef K mg "_law_spot" s_l_spot) (hs : OkD P w K mg base "_law_small" 35 ["_law_box_here"] [] (spSmall K)) : OkD P w K mg base "_law_spot" 36 ["_law_box_here"] [] (spSpot K) := by
  refine okB T sc_l_spot (fun _ _ _ _ _ _ us hl => match us, hl with | [_], _ => rfl) (fun ds e => by rw [e]; rfl) fun cdv A outer s H E hr => ⟨_,
    pss_one (ps_ret (pe_tup (pa_cons (pe_fn hs hr (pa_cons (pv 0) pa_nil)) (pa_cons (pe_fn hs hr (pa_cons (pv 0) pa_nil)) pa_nil)))), ?_⟩
  rintro b ds rfl
  refine go_ret (ev_tup (P := fun d => ∃ x, d = ad x ∧ SmA x) (ea_cons (ca_box0 (i := 0) rfl fun d h => h) (ea_cons (ca_box0 (i := 0) rfl fun d h => h) ea_nil)) ?_) fun d e => ⟨rfl, e⟩
  rintro ds ⟨d, r, rfl, ⟨x, rfl, hx⟩, d2, r2, rfl, ⟨y, rfl, hy⟩, rfl⟩
  exact ⟨by simp, (x, y), rfl, hx, hy⟩
end
end Ct
namespace Ct
open PySem PySem.Spec PyProof.Rows L2 He

/-! ### an expression that changes one's own lists -/
def EvS (K : PySem.W.Frag) (te : TE) (ms : List Slot) (Rel : PyData → List Slot → Prop) : Prop :=
  ∀ (C B : Hp) (p0 ps : List Addr) (σ : L2.St) (H : Hp), EnvOk K C B p0 ps H σ ms → ∀ Q : VK,
    (∀ v H' d ms', Rel d ms' → EnvOk K C B p0 ps H' σ ms' → Dp K (hides ps H') v d → Q v H') → te σ H Q
section
variable {K : PySem.W.Frag} {ms : List Slot} {te : TE} {al : TA} {N : List Slot → Prop} {R : List Slot → PyData → Prop}
/-- return [te for j in range(n)], te changing one's own lists -/
theorem go_retLcS {n : Int} {j : Nat} (I : Nat → List PyData → List Slot → Prop) (h : EvA K al ms (· = [.int n])) (h0 : 0 ≤ n) (hn : n ≤ 900) (i0 : I 0 [] ms) (hj : ∀ i ds m1, I i ds m1 → m1[j]? = some .no)
    (hm : ∀ i ds m1, I i ds m1 → ∀ (a : Nat) (m : Slot), m1[a]? = some m → m.mut = true → ∃ m', ms[a]? = some m' ∧ m'.mut = true) (hl : ∀ i ds m1, I i ds m1 → ds.length = i)
    (he : ∀ (i : Nat) ds m1, (i : Int) < n → I i ds m1 → EvS K te (m1.set j (.d (.int (i : Int)))) (fun d m2' => ∃ m2, m2' = m2.set j (.d (.int (i : Int))) ∧ I (i + 1) (ds ++ [d]) m2))
    (hp : ∀ ds m1, I n.toNat ds m1 → R m1 (.list ds)) : Go K (tRet (tLc (iRng1 al) (gName j) tYes te [j])) ms N R := fun C B p0 ps σ H E D k1 k2 =>
  h.run E fun vs H1 ds p E1 s1 hds => by
    subst p
    cases hds with
    | cons ha hb =>
      cases hb
      refine ⟨n, by rw [dp_int ha], by omega, by omega, fun L hL => ?_⟩
      obtain ⟨nps, np0, hC, E2, s2, no⟩ := own_of (ys := []) E1 hL
      have nn : ∀ i ds m1, I i ds m1 → NotAt σ m1 L := fun i ds m1 hI a m ha hm' => by
        obtain ⟨m', e1, e2⟩ := hm i ds m1 hI a m ha hm'
        exact no a m' e1 e2
      refine lc_range (fun i H => ∃ m1 ds ys, I i ds m1 ∧ EnvOk K C B p0 (L :: ps) H σ m1 ∧ H L = some (.lst ys) ∧ DpAll K (hides (L :: ps) H) ys ds) ⟨ms, [], [], i0, E2, upd_same, .nil⟩ ?_ ?_
      · rintro i H2 hi ⟨m1, ds, ys, hI, E3, hL2, hds⟩
        refine ⟨wipe1 _ _ _, iteT (B := ∃ m1 ds ys, I (i + 1) ds m1 ∧ EnvOk K C B p0 (L :: ps) H2 σ m1 ∧ H2 L = some (.lst ys) ∧ DpAll K (hides (L :: ps) H2) ys ds) ?_⟩
        have e0 : (0 : Int) + (i : Int) = (i : Int) := Int.zero_add _
        rw [e0]
        have E4 : EnvOk K C (hides (L :: ps) H2) p0 (L :: ps) H2 ((wipe σ [j]).set j (some (.int (i : Int)))) (m1.set j (.d (.int (i : Int)))) := by
          have q := (E3.self.drop j (o := none)).put j (v := .int (i : Int)) (.int _)
          rwa [List.set_set (l := m1)] at q
        have n1 : ∀ m1, NotAt σ m1 L → NotAt ((wipe σ [j]).set j (some (.int (i : Int)))) (m1.set j (.d (.int (i : Int)))) L := fun m1 no a m ha hm => by
          rcases getSet ha with ⟨rfl, rfl, _⟩ | ⟨ne, ha⟩
          · cases hm
          · rw [List.getElem?_set_ne (Ne.symm ne)]
            show (σ.set j none)[a]? ≠ _
            rw [List.getElem?_set_ne (Ne.symm ne)]
            exact no a m ha hm
        have E5 := E4.pin hL2 (n1 m1 (nn _ _ _ hI))
        refine he i ds m1 (by omega) hI _ _ _ _ _ _ E5 _ fun v H4 d m2' ⟨m2, em, hI2⟩ E6 hd => ?_
        subst em
        have hL4 : H4 L = some (.lst ys) := E6.keep L _ upd_same
        have E7 : EnvOk K C (hides (L :: ps) H2) p0 (L :: ps) H4 σ m2 := (E6.unpin hC).res (fun a m ha => by
          rcases ms_no (s := .d (.int (i : Int))) (hj _ _ _ hI2) a m ha with z | ⟨ne, z⟩
          · exact .inl z
          · refine .inr ⟨?_, z⟩
            rw [List.getElem?_set_ne (Ne.symm ne)]
            show σ[a]? = (σ.set j none)[a]?
            rw [List.getElem?_set_ne (Ne.symm ne)]) (by
          have q := E6.len
          rw [List.length_set, List.length_set] at q
          rw [← q]
          show σ.length = (σ.set j none).length
          rw [List.length_set])
        have E8 := (E7.back E3.base).touch (ys := ys ++ [v]) List.mem_cons_self hC (nn _ _ _ hI2)
        have hu : hides (L :: ps) (upd H4 L (.lst (ys ++ [v]))) = hides (L :: ps) H4 := hides_upd List.mem_cons_self
        refine ⟨ys, hL4, small1000 (by rw [dp_len hds, hl _ _ _ hI]; omega), m2, ds ++ [d], ys ++ [v], hI2, E8, upd_same, ?_⟩
        rw [hu]
        exact dp_app (hds.to E7.base) (.cons hd .nil)
      · rintro H2 ⟨m1, ds, ys, hI, E3, hL2, hds⟩
        refine k2 _ m1 _ σ H2 _ (hp ds m1 hI) E3 (.lst (.inl (.inl (by rw [hides_out np0]; exact hL2))) (hds.to (hides_sub H2 fun a m => List.mem_cons_of_mem _ (E1.sub a m))))
/-- xs.pop(k) -/
theorem evS_popAt {i : Nat} {tk : TE} {xs : List PyData} (hi : ms[i]? = some (.own xs)) (hk : Ev K tk ms (fun d => ∃ k : Int, d = .int k ∧ 0 ≤ k ∧ k < xs.length)) (hz : xs.length ≤ 1000) :
    EvS K (tBM K "list" rPopAt (tVar i) (tCons tk tNil)) ms (fun d m' => ∃ k : Nat, xs[k]? = some d ∧ m' = ms.set i (.own (xs.eraseIdx k))) := fun C B p0 ps σ H E Q k => by
  obtain ⟨p, vs, a, b, c, e, f⟩ := E.slots i _ hi
  refine ⟨.ref p, a, .inl ⟨rfl, vs, .inl (.inl e)⟩, hk.run E fun v H' dd ⟨n, ed, n0, n1⟩ E' s hd => ?_⟩
  subst ed
  obtain ⟨p', vs', a', b', c', e', f'⟩ := E'.slots i _ hi
  rw [a] at a'; cases a'
  have hn : n.toNat < xs.length := by omega
  obtain ⟨y, hy, hdy⟩ := dp_get f' (List.getElem?_eq_getElem hn)
  have en : n = (n.toNat : Int) := by omega
  refine ⟨p, vs', n, n.toNat, y, rfl, by rw [dp_int hd], e', by omega, by omega, ?_, hy, k y _ xs[n.toNat] _ ⟨n.toNat, List.getElem?_eq_getElem hn, rfl⟩ (E'.write hi a (dp_erase _ f')) ?_⟩
  · have q := dp_len f'
    unfold seqIndex?
    have hc : (decide (0 ≤ n) && decide (n < (vs'.length : Int))) = true := by
      rw [decide_eq_true (by omega), decide_eq_true (by omega)]; rfl
    simp only [if_neg (show ¬ n < 0 by omega)]
    rw [if_pos hc]
  · rw [hides_upd b']; exact hdy
end
theorem eraseIdx_map {α β : Type} (f : α → β) : ∀ (xs : List α) (n : Nat), (xs.map f).eraseIdx n = (xs.eraseIdx n).map f
  | [], _ => rfl
  | x :: xs, 0 => rfl
  | x :: xs, n + 1 => by
    rw [List.map_cons, List.eraseIdx_cons_succ, List.eraseIdx_cons_succ, List.map_cons, eraseIdx_map f xs n]
def ShOk (ws : List Q2) (r : PyData) : Prop := ∃ vs : List Q2, r = pl vs ∧ vs.length = ws.length ∧ ∀ x ∈ vs, x ∈ ws
abbrev spShuf (K : PySem.W.Frag) : Sp := SpB K (fun ds => ∃ ws, ds = [pl ws] ∧ ws.length ≤ 800) (fun ds r => ∃ ws, ds = [pl ws] ∧ ShOk ws r)
section
variable {P : Program} {w : World} {K : PySem.W.Frag} {mg : Str → Option Value} {base : Heap}
abbrev s_l_shuf : Stmt := topS 62
theorem sc_l_shuf : FnScope ["_law_box_here", "_law_row", "_law_left", "_law_k"] ["_law_box_here", "_law_row"] (defScope s_l_shuf) := ⟨rfl, rfl, rfl, by decide +kernel, rfl, by decide +kernel, by decide +kernel⟩
theorem ok_l_shuf (T : IsDef K mg "_law_shuffled" s_l_shuf) (ml : mg "len" = none) (mi : mg "list" = none) (mr : mg "range" = none) (hd : OkD P w K mg base "_law_draw" 33 ["_law_box_here", "_law_many"] [] (spDraw K)) : OkD P w K mg base "_law_shuffled" 34 ["_law_box_here", "_law_row"] [] (spShuf K) := by
  refine okB T sc_l_shuf (fun _ _ _ _ _ _ us hl => match us, hl with | [_, _], _ => rfl) (fun ds ⟨xs, e, _⟩ => by rw [e]; rfl) fun cdv A outer s H E hr => ⟨_,
    pss_cons (ps_set (i := 2) sc_l_shuf.nd rfl (.inr rfl) (pe_callTy call_list_of (by rfl) mi (by decide +kernel) (pa_cons (pv 1) pa_nil)))
    (pss_one (ps_ret (pe_lc (te := tBM K "list" rPopAt (tVar 2) (tCons (tCall (spDraw K) [] E0 (tCons (tVar 0) (tCons (tLen K (tCons (tVar 2) tNil)) tNil))) tNil)) (own := [("_law_k", 3)]) (g := gName 3) (tt := tYes) rfl sc_l_shuf.nd (pi_range1 (by rfl) mr (pa_cons (pe_callB call_len_seq (by rfl) ml PySem.boot_len (pa_cons (pv 1) pa_nil)) pa_nil))
      (blkOk_by (N := ["_law_box_here", "_law_row", "_law_left", "_law_k"]) (sc := defScope s_l_shuf) (by decide +kernel)) (fun _ _ _ _ _ => pg_name (i := 3) sc_l_shuf.nd rfl (.inl rfl)) (fun _ _ _ _ _ => pts_nil)
      (fun _ _ _ _ _ => pe_bm (r := rPopAt) PySem.F.plainAttrs_list PySem.F.slot_list_pop PySem.F.type_list_pop mt_popAt (pv 2) (pa_cons (pe_fn hd hr (pa_cons (pv 0) (pa_cons (pe_callB call_len_seq (by rfl) ml PySem.boot_len (pa_cons (pv 2) pa_nil)) pa_nil))) pa_nil))))), ?_⟩
  rintro b ds ⟨ws, rfl, l1⟩
  refine go_seq (N1 := fun ms => ms = [.box b, .d (pl ws), .own (ws.map pd), .no]) (go_setO (en_list (PL := (· = ws.map pd)) (ea_1 (ev_var (i := 1) rfl)) fun ds e => ⟨_, .inl e, rfl⟩) fun ds e => by rw [e]; rfl) ?_
  rintro ms rfl
  refine go_seq (N1 := fun _ => False) (go_retLcS (n := (ws.length : Int)) (fun i ds m1 => ∃ lw dw : List Q2, m1 = [.box b, .d (pl ws), .own (lw.map pd), .no] ∧ ds = dw.map pd ∧ dw.length = i ∧ lw.length + i = ws.length ∧ (∀ x ∈ lw, x ∈ ws) ∧ ∀ x ∈ dw, x ∈ ws)
    (ea_1 (e_lenP (ev_var (i := 1) rfl))) (by omega) (by omega) ⟨ws, [], rfl, rfl, rfl, rfl, fun x h => h, fun x h => by cases h⟩ ?_ ?_ ?_ ?_ ?_) fun m z => z.elim
  · rintro i ds m1 ⟨lw, dw, rfl, _⟩; rfl
  · rintro i ds m1 ⟨lw, dw, rfl, _⟩ a m ha hm
    match a, ha with
    | 0, ha => exact ⟨_, rfl, rfl⟩
    | 1, ha => rw [← Option.some.inj ha] at hm; cases hm
    | 2, ha => exact ⟨_, rfl, rfl⟩
    | 3, ha => rw [← Option.some.inj ha] at hm; cases hm
  · rintro i ds m1 ⟨lw, dw, rfl, rfl, h, _⟩; rw [List.length_map]; exact h
  · rintro i ds m1 hi ⟨lw, dw, rfl, rfl, h1, h2, h3, h4⟩
    intro C B p0 ps σ H E Q k
    refine evS_popAt (i := 2) (xs := lw.map pd) rfl ((ca_draw (i := 0) (m := (lw.length : Int)) rfl (ev_lenO (i := 2) (P := (· = .int (lw.length : Int))) rfl (by rw [List.length_map])) (by omega) (by omega)).weak fun d ⟨n, a, b, c⟩ => ⟨n, a, b, by rw [List.length_map]; exact c⟩) (by rw [List.length_map]; omega) C B p0 ps σ H E Q fun v H' d m' ⟨n, e1, e2⟩ E' hd => ?_
    rw [List.getElem?_map] at e1
    have hn : n < lw.length := by
      by_cases z : n < lw.length
      · exact z
      · rw [List.getElem?_eq_none (by omega)] at e1; cases e1
    rw [List.getElem?_eq_getElem hn] at e1
    have e1 : pd lw[n] = d := Option.some.inj e1
    refine k v H' d m' ⟨[.box b, .d (pl ws), .own ((lw.eraseIdx n).map pd), .no], by rw [e2, eraseIdx_map]; rfl, lw.eraseIdx n, dw ++ [lw[n]], rfl, by rw [← e1, List.map_append]; rfl, by simp [h1], ?_, fun x hx => h3 x (List.mem_of_mem_eraseIdx hx), fun x hx => ?_⟩ E' hd
    · rw [List.length_eraseIdx_of_lt hn]; omega
    · rcases List.mem_append.mp hx with hx | hx
      · exact h4 x hx
      · rw [List.mem_singleton.mp hx]; exact h3 _ (List.getElem_mem hn)
  · rintro ds m1 ⟨lw, dw, rfl, rfl, h1, h2, h3, h4⟩
    exact ⟨rfl, ws, rfl, dw, rfl, by omega, h4⟩
end
end Ct
namespace Ct
open PySem PySem.Spec PyProof.Rows L2 He

section
variable {K : PySem.W.Frag} {ms : List Slot} {ta tb te : TE} {al : TA} {P P1 PA PB : PyData → Prop} {PL : List PyData → Prop} {tl th : TO}
theorem en_catP (ha : Ev K ta ms PA) (hb : Ev K tb ms PB) (w : ∀ d e, PA d → PB e → ∃ xs zs, d = .list xs ∧ e = .list zs ∧ xs.length + zs.length ≤ 1000 ∧ PL (xs ++ zs)) : EvN K (tOp (rCatL K) ta tb) ms PL := fun C B p0 ps σ H E Q k =>
  ha.run E fun v H1 d p E1 s1 hd => hb.run E1 fun u H2 e p2 E2 s2 he => by
    obtain ⟨xs, zs, rfl, rfl, hz, hl⟩ := w d e p p2
    obtain ⟨a, vs, rfl, h1, hv⟩ := dp_list (hd.to s2)
    obtain ⟨b, ws, rfl, h2, hw⟩ := dp_list he
    refine ⟨a, b, vs, ws, rfl, rfl, (hides_le _ _).seq h1, (hides_le _ _).seq h2, by rw [dp_len hv, dp_len hw]; exact Nat.le_of_lt (small1000 hz), fun q hq => ?_⟩
    obtain ⟨f, a1, b1, c, d, e⟩ := own_of (ys := vs ++ ws) E2 hq
    exact k q _ _ _ hl upd_same f a1 b1 c e ((dp_app hv hw).to d)
/-- texts -/
def ShortS (n : Nat) (d : PyData) : Prop := ∃ x : Str, d = .str x ∧ x.length ≤ n
theorem ev_addS {n m : Nat} (ha : Ev K ta ms (ShortS n)) (hb : Ev K tb ms (ShortS m)) (h : n + m ≤ 1000) : Ev K (tOp (fun x y H Q => ∃ i j, x = .str i ∧ y = .str j ∧ i.length + j.length ≤ sizeLine ∧ Q (.str (i ++ j)) H) ta tb) ms (fun d => ∃ x, d = .str x) :=
  ev_op ha hb fun ps H x y d1 d2 Q _ ⟨a, e1, h1⟩ ⟨b, e2, h2⟩ hx hy k => by
    subst e1 e2
    exact ⟨a, b, dp_str hx, dp_str hy, Nat.le_of_lt (small1000 (by omega)), k _ H _ ⟨_, rfl⟩ (Same.refl _) (.str _)⟩
theorem ev_mulS {n : Nat} {k : Int} (ha : Ev K ta ms (ShortS n)) (hb : Ev K tb ms (· = .int k)) (h : k = 0 ∨ k = 1) : Ev K (tOp rStr01 ta tb) ms (ShortS n) :=
  ev_op ha hb fun ps H x y d1 d2 Q _ ⟨a, e1, h1⟩ e2 hx hy kk => by
    subst e1 e2
    refine ⟨a, k, dp_str hx, dp_int hy, ?_⟩
    rcases h with rfl | rfl
    · exact .inl ⟨rfl, kk _ H _ ⟨_, rfl, Nat.zero_le _⟩ (Same.refl _) (.str _)⟩
    · exact .inr ⟨rfl, kk _ H _ ⟨_, rfl, h1⟩ (Same.refl _) (.str _)⟩
theorem ev_ixS {z : Str} {k : Int} (ha : Ev K ta ms (· = .str z)) (hb : Ev K tb ms (· = .int k)) (k0 : 0 ≤ k) (k1 : k < z.cps.toList.length) (hz : z.length ≤ 1000) : Ev K (tOp rIxS ta tb) ms (ShortS 1) :=
  ev_op ha hb fun ps H x y d1 d2 Q _ e1 e2 hx hy kk => by
    subst e1 e2
    have hk : k.toNat < z.cps.toList.length := by omega
    exact ⟨z, k, z.cps.toList[k.toNat], dp_str hx, dp_int hy, Nat.le_of_lt (small1000 hz), atI_pos k0 (List.getElem?_eq_getElem hk), kk _ H _ ⟨_, rfl, Nat.le_refl _⟩ (Same.refl _) (.str _)⟩
end
def sl (ss : List Str) : PyData := .list (ss.map .str)
theorem sl_inj {a b : List Str} (h : sl a = sl b) : a = b := by
  unfold sl at h
  injection h with h
  exact map_inj (fun x y e => by injection e) h
abbrev spNames (K : PySem.W.Frag) : Sp := SpB K (fun ds => ∃ m : Nat, ds = [.int (m : Int)] ∧ m ≤ 800) (fun ds r => ∃ (m : Nat) (ss : List Str), ds = [.int (m : Int)] ∧ r = sl ss ∧ ss.length = m)
abbrev spArrow (K : PySem.W.Frag) : Sp := SpB K (fun ds => ds = []) (fun ds r => ∃ x, r = ad x ∧ SmA x)
section
variable {P : Program} {w : World} {K : PySem.W.Frag} {mg : Str → Option Value} {base : Heap}
abbrev s_l_names : Stmt := topS 64
theorem sc_l_names : FnScope ["_law_box_here", "_law_many", "_law_letters", "_law_start", "_law_step", "_law_tail", "_law_pick", "_law_found", "_law_k", "_law_sign"] ["_law_box_here", "_law_many"] (defScope s_l_names) := ⟨rfl, rfl, rfl, by decide +kernel, rfl, by decide +kernel, by decide +kernel⟩
theorem ok_l_names (T : IsDef K mg "_law_names" s_l_names) (ml : mg "len" = none) (mr : mg "range" = none) (hd : OkD P w K mg base "_law_draw" 33 ["_law_box_here", "_law_many"] [] (spDraw K)) (ho : OkD P w K mg base "_law_of" 34 ["_law_box_here", "_law_some"] [] (spOf K)) :
    OkD P w K mg base "_law_names" 35 ["_law_box_here", "_law_many"] [] (spNames K) := by
  refine okB T sc_l_names (fun _ _ _ _ _ _ us hl => match us, hl with | [_, _], _ => rfl) (fun ds ⟨m, e, _⟩ => by rw [e]; rfl) fun cdv A outer s H E hr => ⟨_,
    pss_cons (ps_set (i := 2) sc_l_names.nd rfl (.inl rfl) pe_str)
    (pss_cons (ps_par (i := 3) (j := 4) rfl sc_l_names.nd rfl rfl (by decide) rfl rfl (pa_cons (pe_fn hd (hr.mono (by decide)) (pa_cons (pv 0) (pa_cons pe_int pa_nil))) (pa_cons (pe_fn ho hr (pa_cons (pv 0) (pa_cons (pe_lst (pa_cons pe_int (pa_cons pe_int (pa_cons pe_int (pa_cons pe_int (pa_cons pe_int (pa_cons pe_int pa_nil))))))) pa_nil))) pa_nil)) (by rfl))
    (pss_cons (ps_par (i := 5) (j := 6) rfl sc_l_names.nd rfl rfl (by decide) rfl rfl (pa_cons (pe_fn ho hr (pa_cons (pv 0) (pa_cons (pe_lst (pa_cons pe_str (pa_cons pe_str (pa_cons pe_str (pa_cons pe_str (pa_cons pe_str pa_nil)))))) pa_nil))) (pa_cons (pe_fn hd (hr.mono (by decide)) (pa_cons (pv 0) (pa_cons pe_int pa_nil))) pa_nil)) (by rfl))
    (pss_cons (ps_set (i := 7) sc_l_names.nd rfl (.inl rfl) (pe_lst pa_nil))
    (pss_cons (ps_for PassesOwn.never rfl (pi_range1 (by rfl) mr (pa_cons (pv 1) pa_nil)) (pg_name (i := 8) sc_l_names.nd rfl (.inl rfl))
      (pss_cons (ps_set (i := 9) sc_l_names.nd rfl (.inl rfl) (pe_ix ix_str (pv 2) (pe_op op_mod (pe_op op_add (pv 3) (pe_op op_mul (pv 4) (pv 8))) pe_int) (fun _ _ => rfl)))
      (pss_one (ps_expr (pe_bm PySem.F.plainAttrs_list PySem.F.slot_list_append PySem.F.type_list_append mt_append (pv 7) (pa_cons (pe_ix ix_list (pe_lst (pa_cons (pe_op op_add_str (pv 9) (pv 5)) (pa_cons (pe_op op_add_str (pv 5) (pv 9)) (pa_cons (pe_op op_add_str (pv 9) (pe_op op_str01 (pv 5) (pe_op op_mod (pv 8) pe_int))) pa_nil)))) (pv 6) (fun _ _ => rfl)) pa_nil))))))
    (pss_one (ps_ret (pv 7))))))), ?_⟩
  rintro b ds ⟨m, rfl, hm⟩
  have hlet : ("abcdefghijklmnopqrstuvwxyz" : Str).cps.toList.length = 26 := by decide +kernel
  have hlet2 : ("abcdefghijklmnopqrstuvwxyz" : Str).length ≤ 1000 := by decide +kernel
  refine go_seq (N1 := fun ms => ms = [.box b, .d (.int (m : Int)), .d (.str "abcdefghijklmnopqrstuvwxyz"), .no, .no, .no, .no, .no, .no, .no]) (go_set ev_str fun d e => by rw [e]; rfl) ?_
  rintro ms rfl
  have h6 : ∀ {ms : List Slot}, EvA K (tCons (tC (.int 1)) (tCons (tC (.int 3)) (tCons (tC (.int 5)) (tCons (tC (.int 7)) (tCons (tC (.int 9)) (tCons (tC (.int 11)) tNil)))))) ms (· = [.int 1, .int 3, .int 5, .int 7, .int 9, .int 11]) := fun {ms} =>
    (ea_cons ev_int (ea_cons ev_int (ea_cons ev_int (ea_3 ev_int ev_int ev_int)))).weak fun ds ⟨d, r, e1, e2, d', r', e3, e4, d'', r'', e5, e6, e7⟩ => by rw [e1, e2, e3, e4, e5, e6, e7]
  refine go_seq (N1 := fun ms => ∃ a s : Int, ms = [.box b, .d (.int (m : Int)), .d (.str "abcdefghijklmnopqrstuvwxyz"), .d (.int a), .d (.int s), .no, .no, .no, .no, .no] ∧ 1 ≤ s ∧ s ≤ 11) (go_par (ea_cons (ca_draw (i := 0) (m := 26) rfl ev_int (by decide) (by decide)) (ea_cons (ca_of (i := 0) rfl (ev_lst h6 fun ds e => by rw [e]; exact ⟨by decide, rfl⟩) (by decide) (by decide)) ea_nil)) ?_) ?_
  · rintro ds ⟨d, r, rfl, ⟨a, rfl, a0, a1⟩, d2, r2, rfl, hs, rfl⟩
    have h3 : ∃ s : Int, d2 = .int s ∧ 1 ≤ s ∧ s ≤ 11 := by
      simp only [List.mem_cons, List.not_mem_nil, or_false] at hs
      rcases hs with h | h | h | h | h | h <;> exact ⟨_, h, by decide, by decide⟩
    obtain ⟨s, rfl, s0, s1⟩ := h3
    exact ⟨_, _, rfl, a, s, rfl, s0, s1⟩
  rintro ms ⟨a, st, rfl, s0, s1⟩
  have h5 : ∀ {ms : List Slot}, EvA K (tCons (tC (.str "")) (tCons (tC (.str "q")) (tCons (tC (.str "zz")) (tCons (tC (.str "rod")) (tCons (tC (.str "ended")) tNil))))) ms (· = [.str "", .str "q", .str "zz", .str "rod", .str "ended"]) := fun {ms} =>
    (ea_cons ev_str (ea_cons ev_str (ea_3 ev_str ev_str ev_str))).weak fun ds ⟨d, r, e1, e2, d', r', e3, e4, e5⟩ => by rw [e1, e2, e3, e4, e5]
  refine go_seq (N1 := fun ms => ∃ (t : Str) (p : Int), ms = [.box b, .d (.int (m : Int)), .d (.str "abcdefghijklmnopqrstuvwxyz"), .d (.int a), .d (.int st), .d (.str t), .d (.int p), .no, .no, .no] ∧ t.length ≤ 5 ∧ 0 ≤ p ∧ p < 3) (go_par (ea_cons (ca_of (i := 0) rfl (ev_lst h5 fun ds e => by rw [e]; exact ⟨by decide, rfl⟩) (by decide) (by decide)) (ea_cons (ca_draw (i := 0) (m := 3) rfl ev_int (by decide) (by decide)) ea_nil)) ?_) ?_
  · rintro ds ⟨d, r, rfl, hs, d2, r2, rfl, ⟨p, rfl, p0, p1⟩, rfl⟩
    have h3 : ∃ t : Str, d = .str t ∧ t.length ≤ 5 := by
      simp only [List.mem_cons, List.not_mem_nil, or_false] at hs
      rcases hs with h | h | h | h | h <;> exact ⟨_, h, by decide +kernel⟩
    obtain ⟨t, rfl, ht⟩ := h3
    exact ⟨_, _, rfl, t, p, rfl, ht, p0, p1⟩
  rintro ms ⟨t, p, rfl, ht, p0, p1⟩
  refine go_seq (N1 := fun ms => ms = [.box b, .d (.int (m : Int)), .d (.str "abcdefghijklmnopqrstuvwxyz"), .d (.int a), .d (.int st), .d (.str t), .d (.int p), .own [], .no, .no]) (go_setO (en_lst ea_nil fun ds e => by rw [e]; decide) fun ds e => by rw [e]; rfl) ?_
  rintro ms rfl
  refine go_seq (N1 := fun ms => ∃ (ss : List Str) (x y : Slot), ms = [.box b, .d (.int (m : Int)), .d (.str "abcdefghijklmnopqrstuvwxyz"), .d (.int a), .d (.int st), .d (.str t), .d (.int p), .own (ss.map .str), x, y] ∧ ss.length = m) (go_forR1 (n := (m : Int)) (ea_1 (ev_var (i := 1) rfl)) (by omega) (by omega)
    (fun i ms => ∃ (ss : List Str) (x y : Slot), ms = [.box b, .d (.int (m : Int)), .d (.str "abcdefghijklmnopqrstuvwxyz"), .d (.int a), .d (.int st), .d (.str t), .d (.int p), .own (ss.map .str), x, y] ∧ ss.length = i) ⟨[], .no, .no, rfl, rfl⟩ ?_ ?_) ?_
  · rintro i ms1 hi ⟨ss, x, y, rfl, hl⟩
    refine go_seq (N1 := fun ms => ∃ g : Str, ms = [.box b, .d (.int (m : Int)), .d (.str "abcdefghijklmnopqrstuvwxyz"), .d (.int a), .d (.int st), .d (.str t), .d (.int p), .own (ss.map .str), .d (.int (i : Int)), .d (.str g)] ∧ g.length ≤ 1) (go_set (ev_ixS (z := "abcdefghijklmnopqrstuvwxyz") (k := (a + st * (i : Int)) % 26) (ev_var (i := 2) rfl) (e_modP (e_add (ev_var (i := 3) rfl) (e_mulS (ev_var (i := 4) rfl) (ev_var (i := 8) rfl) (.inl ⟨by omega, by omega⟩))) ev_int (by decide)) (Int.emod_nonneg _ (by decide)) (by rw [hlet]; exact Int.emod_lt_of_pos _ (by decide)) hlet2) fun d ⟨g, e, hg⟩ => by subst e; exact ⟨g, rfl, hg⟩) ?_
    rintro ms ⟨g, rfl, hg⟩
    have vt : ∀ {ms : List Slot}, ms[5]? = some (.d (.str t)) → Ev K (tVar 5) ms (ShortS 5) := fun e => (ev_var e).weak fun d e => ⟨t, e, ht⟩
    have vg : ∀ {ms : List Slot}, ms[9]? = some (.d (.str g)) → Ev K (tVar 9) ms (ShortS 1) := fun e => (ev_var e).weak fun d e => ⟨g, e, hg⟩
    refine go_app (i := 7) rfl (by rw [List.length_map]; omega) (ev_ixL (P := fun d => ∃ x, d = .str x) (P1 := fun d => ∃ x y z : Str, d = .list [.str x, .str y, .str z]) (ev_lst (ea_cons (ev_addS (vg rfl) (vt rfl) (by decide)) (ea_cons (ev_addS (vt rfl) (vg rfl) (by decide)) (ea_cons (ev_addS (vg rfl) (ev_mulS (k := (i : Int) % 2) (vt rfl) (e_mod2 (ev_var (i := 8) rfl)) (by omega)) (by decide)) ea_nil))) ?_) (ev_var (i := 6) rfl) ?_) ?_
    · rintro ds ⟨d, r, rfl, ⟨x, rfl⟩, d2, r2, rfl, ⟨y, rfl⟩, d3, r3, rfl, ⟨z, rfl⟩, rfl⟩
      exact ⟨by simp, x, y, z, rfl⟩
    · rintro d1 d2 ⟨x, y, z, rfl⟩ rfl
      have h3 : p = 0 ∨ p = 1 ∨ p = 2 := by omega
      rcases h3 with rfl | rfl | rfl
      · exact ⟨_, 0, _, rfl, rfl, rfl, x, rfl⟩
      · exact ⟨_, 1, _, rfl, rfl, rfl, y, rfl⟩
      · exact ⟨_, 2, _, rfl, rfl, rfl, z, rfl⟩
    · rintro d ⟨x, rfl⟩
      exact ⟨ss ++ [x], _, _, by rw [List.map_append]; rfl, by simp [hl]⟩
  · rintro ms1 ⟨ss, x, y, rfl, hl⟩
    exact ⟨ss, x, y, rfl, by omega⟩
  rintro ms ⟨ss, x, y, rfl, hl⟩
  exact go_retO (i := 7) rfl ⟨rfl, m, ss, rfl, rfl, hl⟩
/-! ### arrow -/
abbrev s_l_arrow : Stmt := topS 65
theorem sc_l_arrow : FnScope ["_law_box_here", "_law_x", "_law_y", "_law_found"] ["_law_box_here"] (defScope s_l_arrow) := ⟨rfl, rfl, rfl, by decide +kernel, rfl, by decide +kernel, by decide +kernel⟩
theorem smI {a : Int} (h1 : -6 ≤ a) (h2 : a ≤ 6) : SmQ (a, 1) := ⟨a, 1, h1, h2, by decide, by decide, by
  unfold low
  simp⟩
theorem ok_l_arrow (T : IsDef K mg "_law_arrow" s_l_arrow) (hd : OkD P w K mg base "_law_draw" 33 ["_law_box_here", "_law_many"] [] (spDraw K)) (ho : OkD P w K mg base "_law_of" 34 ["_law_box_here", "_law_some"] [] (spOf K)) (hs : OkD P w K mg base "_law_spot" 36 ["_law_box_here"] [] (spSpot K)) :
    OkD P w K mg base "_law_arrow" 37 ["_law_box_here"] [] (spArrow K) := by
  refine okB T sc_l_arrow (fun _ _ _ _ _ _ us hl => match us, hl with | [_], _ => rfl) (fun ds e => by rw [e]; rfl) fun cdv A outer s H E hr => ⟨_,
    pss_cons (ps_if (pt_cmpR op_eq (pe_fn hd (hr.mono (by decide)) (pa_cons (pv 0) (pa_cons pe_int pa_nil))) pe_int (nomark _))
      (pss_cons (ps_asg (pe_fn ho (hr.mono (by decide)) (pa_cons (pv 0) (pa_cons (pe_lst (pa_cons (pe_tup (pa_cons pe_int (pa_cons pe_int pa_nil))) (pa_cons (pe_tup (pa_cons pe_int (pa_cons pe_int pa_nil))) (pa_cons (pe_tup (pa_cons pe_int (pa_cons pe_int pa_nil))) (pa_cons (pe_tup (pa_cons pe_int (pa_cons pe_int pa_nil)))
          (pa_cons (pe_tup (pa_cons (pe_un un_neg pe_int) (pa_cons pe_int pa_nil))) (pa_cons (pe_tup (pa_cons (pe_un un_neg pe_int) (pa_cons pe_int pa_nil))) (pa_cons (pe_tup (pa_cons pe_int (pa_cons (pe_un un_neg pe_int) pa_nil))) (pa_cons (pe_tup (pa_cons pe_int (pa_cons (pe_un un_neg pe_int) pa_nil)))
          (pa_cons (pe_tup (pa_cons pe_int (pa_cons pe_int pa_nil))) (pa_cons (pe_tup (pa_cons (pe_un un_neg pe_int) (pa_cons pe_int pa_nil))) pa_nil))))))))))) pa_nil)))
        (pg_tup rfl (pgs_cons (pg_name (i := 1) sc_l_arrow.nd rfl (.inl rfl)) (pgs_cons (pg_name (i := 2) sc_l_arrow.nd rfl (.inl rfl)) pgs_nil))))
      (pss_one (ps_ret (pe_tup (pa_cons (pe_tup (pa_cons (pv 1) (pa_cons pe_int pa_nil))) (pa_cons (pe_tup (pa_cons (pv 2) (pa_cons pe_int pa_nil))) pa_nil)))))) pss_nil)
    (pss_cons (ps_set (i := 3) sc_l_arrow.nd rfl (.inl rfl) (pe_fn hs hr (pa_cons (pv 0) pa_nil)))
    (pss_one (ps_ret (pe_ifExp (pt_cmpR (op_neD hr.units) (pv 3) (pe_tup (pa_cons (pe_tup (pa_cons pe_int (pa_cons pe_int pa_nil))) (pa_cons (pe_tup (pa_cons pe_int (pa_cons pe_int pa_nil))) pa_nil))) (nomark _)) (pv 3)
      (pe_tup (pa_cons (pe_tup (pa_cons pe_int (pa_cons pe_int pa_nil))) (pa_cons (pe_tup (pa_cons pe_int (pa_cons pe_int pa_nil))) pa_nil))))))), ?_⟩
  rintro b ds rfl
  refine go_seq (N1 := fun ms => ms = [.box b, .no, .no, .no]) (go_if (PB := fun _ => True) (et_test (P := fun d => ∃ c : Bool, d = .bool c) (ev_eqI (ca_draw (i := 0) (m := 3) rfl ev_int (by decide) (by decide)) ev_int fun d1 d2 ⟨k, e1, _⟩ e2 => ⟨_, _, e1, e2, _, rfl⟩) fun d ⟨c, e⟩ => ⟨c, e, trivial⟩) (fun _ => ?_) fun _ => go_next rfl) ?_
  · have hl : ∀ {ms : List Slot}, Ev K (tLst (tCons (tTup (tCons (tC (.int 3)) (tCons (tC (.int 4)) tNil))) (tCons (tTup (tCons (tC (.int 4)) (tCons (tC (.int 3)) tNil))) (tCons (tTup (tCons (tC (.int 5)) (tCons (tC (.int 0)) tNil))) (tCons (tTup (tCons (tC (.int 0)) (tCons (tC (.int 5)) tNil)))
        (tCons (tTup (tCons (tUn (rU fun i => .int (-i)) (tC (.int 3))) (tCons (tC (.int 4)) tNil))) (tCons (tTup (tCons (tUn (rU fun i => .int (-i)) (tC (.int 5))) (tCons (tC (.int 0)) tNil))) (tCons (tTup (tCons (tC (.int 4)) (tCons (tUn (rU fun i => .int (-i)) (tC (.int 3))) tNil))) (tCons (tTup (tCons (tC (.int 0)) (tCons (tUn (rU fun i => .int (-i)) (tC (.int 5))) tNil)))
        (tCons (tTup (tCons (tC (.int 1)) (tCons (tC (.int 0)) tNil))) (tCons (tTup (tCons (tUn (rU fun i => .int (-i)) (tC (.int 1))) (tCons (tC (.int 0)) tNil))) tNil))))))))))) ms (· = .list ([(3, 4), (4, 3), (5, 0), (0, 5), (-3, 4), (-5, 0), (4, -3), (0, -5), (1, 0), (-1, 0)].map pd)) := fun {ms} =>
      ev_lst (ea_cons (e_pair ev_int ev_int) (ea_cons (e_pair ev_int ev_int) (ea_cons (e_pair ev_int ev_int) (ea_cons (e_pair ev_int ev_int) (ea_cons (e_pair (e_neg ev_int) ev_int) (ea_cons (e_pair (e_neg ev_int) ev_int) (ea_cons (e_pair ev_int (e_neg ev_int)) (ea_cons (e_pair ev_int (e_neg ev_int)) (ea_cons (e_pair ev_int ev_int) (ea_cons (e_pair (e_neg ev_int) ev_int) ea_nil)))))))))) fun ds h => by
        obtain ⟨_, _, rfl, rfl, _, _, rfl, rfl, _, _, rfl, rfl, _, _, rfl, rfl, _, _, rfl, rfl, _, _, rfl, rfl, _, _, rfl, rfl, _, _, rfl, rfl, _, _, rfl, rfl, _, _, rfl, rfl, rfl⟩ := h
        exact ⟨by decide, rfl⟩
    refine go_seq (N1 := fun ms => ∃ x y : Int, ms = [.box b, .d (.int x), .d (.int y), .no] ∧ -6 ≤ x ∧ x ≤ 6 ∧ -6 ≤ y ∧ y ≤ 6) (go_asg (ca_of (i := 0) rfl hl (by decide) (by decide)) fun d hm => ?_) ?_
    · have h3 : ∃ x y : Int, d = pd (x, y) ∧ -6 ≤ x ∧ x ≤ 6 ∧ -6 ≤ y ∧ y ≤ 6 := by
        obtain ⟨⟨x, y⟩, hm, e⟩ := List.mem_map.mp hm
        refine ⟨x, y, e.symm, ?_⟩
        simp only [List.mem_cons, List.not_mem_nil, or_false, Prod.mk.injEq] at hm
        omega
      obtain ⟨x, y, rfl, hx⟩ := h3
      exact ⟨_, tg_tup2, x, y, rfl, hx⟩
    rintro ms ⟨x, y, rfl, x0, x1, y0, y1⟩
    exact go_ret (e_pair (e_pair (ev_var (i := 1) rfl) ev_int) (e_pair (ev_var (i := 2) rfl) ev_int)) fun d e => ⟨rfl, ((x, 1), (y, 1)), e, smI x0 x1, smI y0 y1⟩
  rintro ms rfl
  refine go_seq (N1 := fun ms => ∃ z, ms = [.box b, .no, .no, .d (ad z)] ∧ SmA z) (go_set (ca_box0 (i := 0) (P := fun d => ∃ x, d = ad x ∧ SmA x) rfl fun d h => h) fun d ⟨z, e, hz⟩ => by subst e; exact ⟨z, rfl, hz⟩) ?_
  rintro ms ⟨z, rfl, hz⟩
  refine go_ret (P := fun d => ∃ x, d = ad x ∧ SmA x) (ev_if (t_test (e_neA (b := org) (ev_var (i := 3) rfl) e_zero2)) (fun _ => (ev_var (i := 3) rfl).weak fun d e => ⟨z, e, hz⟩) fun _ => (e_pair (e_pair ev_int ev_int) (e_pair ev_int ev_int)).weak fun d e => ⟨((2, 1), (0, 1)), e, smI (by decide) (by decide), smI (by decide) (by decide)⟩) fun d e => ⟨rfl, e⟩
end
end Ct
namespace Ct
open PySem PySem.Spec PyProof.Rows L2 He

theorem low_neg (a b : Int) : low (-a) b = (0 - (low a b).1, (low a b).2) := by
  unfold low
  rw [Int.neg_gcd]
  refine Prod.ext ?_ rfl
  show _ * -a / _ = 0 - _
  rw [Int.zero_sub, Int.mul_neg]
  exact Int.neg_ediv_of_dvd (Int.dvd_trans (Int.gcd_dvd_left a b) (Int.dvd_mul_left _ a))
theorem SmQ.neg {x : Q2} (h : SmQ x) : SmQ (0 - x.1, x.2) := by
  obtain ⟨a, b, h1, h2, h3, h4, rfl⟩ := h
  exact ⟨-a, b, by omega, by omega, h3, h4, (low_neg a b).symm⟩
def RodsOk (lo hi : Nat) (r : PyData) : Prop := ∃ rs : List (Str × A2), r = rl rs ∧ lo ≤ rs.length ∧ rs.length ≤ hi ∧ ∀ x ∈ rs, SmA x.2
abbrev spRods (K : PySem.W.Frag) : Sp := SpB K (fun ds => ∃ lo hi : Nat, ds = [.int (lo : Int), .int (hi : Int)] ∧ 1 ≤ lo ∧ lo ≤ hi ∧ hi ≤ 700) (fun ds r => ∃ lo hi : Nat, ds = [.int (lo : Int), .int (hi : Int)] ∧ RodsOk lo hi r)
section
variable {P : Program} {w : World} {K : PySem.W.Frag} {mg : Str → Option Value} {base : Heap}
abbrev s_l_rods : Stmt := topS 66
theorem sc_l_rods : FnScope ["_law_box_here", "_law_low_here", "_law_most", "_law_names_here", "_law_rods_here", "_law_at_here", "_law_x", "_law_y", "_law_name"] ["_law_box_here", "_law_low_here", "_law_most"] (defScope s_l_rods) := ⟨rfl, rfl, rfl, by decide +kernel, rfl, by decide +kernel, by decide +kernel⟩
theorem ok_l_rods (T : IsDef K mg "_law_rods" s_l_rods) (ml : mg "len" = none) (hd : OkD P w K mg base "_law_draw" 33 ["_law_box_here", "_law_many"] [] (spDraw K)) (hn : OkD P w K mg base "_law_names" 35 ["_law_box_here", "_law_many"] [] (spNames K)) (ha : OkD P w K mg base "_law_arrow" 37 ["_law_box_here"] [] (spArrow K)) :
    OkD P w K mg base "_law_rods" 38 ["_law_box_here", "_law_low_here", "_law_most"] [] (spRods K) := by
  refine okB T sc_l_rods (fun _ _ _ _ _ _ us hl => match us, hl with | [_, _, _], _ => rfl) (fun ds ⟨lo, hi, e, _⟩ => by rw [e]; rfl) fun cdv A outer s H E hr => ?_
  have hr3 : Room 33 (A.deeper (envOfC "_law_rods" (defScope s_l_rods) s.heap.objs.size (ga K "_law_rods") cdv)) := hr.mono (by decide)
  have hr5 : Room 35 (A.deeper (envOfC "_law_rods" (defScope s_l_rods) s.heap.objs.size (ga K "_law_rods") cdv)) := hr.mono (by decide)
  refine ⟨_,
    pss_cons (ps_set (i := 3) sc_l_rods.nd rfl (.inl rfl) (pe_fn hn hr5 (pa_cons (pv 0) (pa_cons (pe_op op_add (pv 1) (pe_fn hd hr3 (pa_cons (pv 0) (pa_cons (pe_op op_add (pe_op op_sub (pv 2) (pv 1)) pe_int) pa_nil)))) pa_nil))))
    (pss_cons (ps_setLc (i := 4) (own := [("_law_name", 8)]) (g := gName 8) (tt := tYes) rfl sc_l_rods.nd rfl rfl (sw_true rfl rfl rfl (by decide +kernel)) (pi_list (pv 3)) (blkOk_by (N := ["_law_box_here", "_law_low_here", "_law_most", "_law_names_here", "_law_rods_here", "_law_at_here", "_law_x", "_law_y", "_law_name"]) (sc := defScope s_l_rods) (by decide +kernel))
      (fun _ _ _ _ _ => pg_name (i := 8) sc_l_rods.nd rfl (.inl rfl)) (fun _ _ _ _ _ => pts_nil)
      (fun _ _ _ _ _ => pe_tup (pa_cons (pv 8) (pa_cons (pe_fn ha hr (pa_cons (pv 0) pa_nil)) pa_nil))))
    (pss_cons (ps_if (PW.pt (pw_and (pt_cmpR op_gt (pe_callB call_len_seq (by rfl) ml PySem.boot_len (pa_cons (pv 4) pa_nil)) pe_int (nomark _)) (pw_and1 (pt_cmpR op_eq (pe_fn hd hr3 (pa_cons (pv 0) (pa_cons pe_int pa_nil))) pe_int (nomark _)))))
      (pss_cons (ps_set (i := 5) sc_l_rods.nd rfl (.inl rfl) (pe_op op_add pe_int (pe_fn hd hr3 (pa_cons (pv 0) (pa_cons (pe_op op_sub (pe_callB call_len_seq (by rfl) ml PySem.boot_len (pa_cons (pv 4) pa_nil)) pe_int) pa_nil)))))
      (pss_cons (ps_asg (pe_ix ix_tup (pe_ix ix_list (pv 4) (pe_fn hd hr3 (pa_cons (pv 0) (pa_cons (pv 5) pa_nil))) (fun _ _ => rfl)) pe_int (fun _ _ => rfl)) (pg_tup rfl (pgs_cons (pg_name (i := 6) sc_l_rods.nd rfl (.inl rfl)) (pgs_cons (pg_name (i := 7) sc_l_rods.nd rfl (.inl rfl)) pgs_nil))))
      (pss_one (ps_asg (pe_tup (pa_cons (pe_ix ix_tup (pe_ix ix_list (pv 4) (pv 5) (fun _ _ => rfl)) pe_int (fun _ _ => rfl)) (pa_cons (pe_tup (pa_cons (pe_tup (pa_cons (pe_op op_sub pe_int (pe_ix ix_tup (pv 6) pe_int (fun _ _ => rfl))) (pa_cons (pe_ix ix_tup (pv 6) pe_int (fun _ _ => rfl)) pa_nil)))
        (pa_cons (pe_tup (pa_cons (pe_op op_sub pe_int (pe_ix ix_tup (pv 7) pe_int (fun _ _ => rfl))) (pa_cons (pe_ix ix_tup (pv 7) pe_int (fun _ _ => rfl)) pa_nil))) pa_nil))) pa_nil))) (pg_sub (pv 4) (pv 5) set_list))))) pss_nil)
    (pss_one (ps_ret (pv 4))))), ?_⟩
  rintro b ds ⟨lo, hi, rfl, l0, l1, l2⟩
  refine go_seq (N1 := fun ms => ∃ ss : List Str, ms = [.box b, .d (.int (lo : Int)), .d (.int (hi : Int)), .d (sl ss), .no, .no, .no, .no, .no] ∧ lo ≤ ss.length ∧ ss.length ≤ hi) (go_set (P := fun d => ∃ ss : List Str, d = sl ss ∧ lo ≤ ss.length ∧ ss.length ≤ hi) (ev_callB (i := 0) rfl (ea_cons (P := fun d => ∃ m : Nat, d = .int (m : Int) ∧ lo ≤ m ∧ m ≤ hi)
    (ev_I0 (ev_var (i := 1) rfl) (ca_draw (i := 0) (m := (hi : Int) - (lo : Int) + 1) rfl (e_add (e_sub (ev_var (i := 2) rfl) (ev_var (i := 1) rfl)) ev_int) (by omega) (by omega)) fun d1 d2 e1 ⟨k, e2, k0, k1⟩ => ⟨_, _, e1, e2, lo + k.toNat, by
      have : (lo : Int) + k = ((lo + k.toNat : Nat) : Int) := by omega
      rw [this], by omega, by omega⟩) ea_nil) ?_) fun d ⟨ss, e, h⟩ => by subst e; exact ⟨ss, rfl, h⟩) ?_
  · rintro ds ⟨d, r, rfl, ⟨m, rfl, m0, m1⟩, rfl⟩
    refine ⟨⟨m, rfl, by omega⟩, fun r ⟨m', ss, e, h1, h2⟩ => ⟨ss, h1, ?_⟩⟩
    injection e with e _
    injection e with e
    omega
  rintro ms ⟨ss, rfl, s0, s1⟩
  refine go_seq (N1 := fun ms => ∃ rs : List (Str × A2), ms = [.box b, .d (.int (lo : Int)), .d (.int (hi : Int)), .d (sl ss), .own (rs.map rd), .no, .no, .no, .no] ∧ rs.length = ss.length ∧ ∀ x ∈ rs, SmA x.2) (go_setO (PL := fun ds => ∃ rs : List (Str × A2), ds = rs.map rd ∧ rs.length = ss.length ∧ ∀ x ∈ rs, SmA x.2)
    (ev_lcL (ds := ss.map .str) (j := 8) (x := fun k d => ∃ (g : Str) (z : A2), d = rd (g, z) ∧ SmA z) (ev_var (i := 3) rfl) (by rw [List.length_map]; omega) rfl (fun i d hi => ?_) fun ds h1 h2 => ?_) fun ds ⟨rs, e, h⟩ => by subst e; exact ⟨rs, rfl, h⟩) ?_
  · have hd : ∃ g : Str, d = .str g := by
      rw [List.getElem?_map] at hi
      cases e : ss[i]? with
      | none => rw [e] at hi; cases hi
      | some g => rw [e] at hi; exact ⟨g, (Option.some.inj hi).symm⟩
    obtain ⟨g, rfl⟩ := hd
    refine ev_tup (ea_cons (ev_var (i := 8) rfl) (ea_cons (ca_box0 (i := 0) (P := fun d => ∃ x, d = ad x ∧ SmA x) rfl fun d h => h) ea_nil)) ?_
    rintro ds ⟨d, r, rfl, rfl, d2, r2, rfl, ⟨z, rfl, hz⟩, rfl⟩
    exact ⟨by simp, g, z, rfl, hz⟩
  · rw [List.length_map] at h1
    have key : ∀ (ds : List PyData), (∀ k d, ds[k]? = some d → ∃ (g : Str) (z : A2), d = rd (g, z) ∧ SmA z) → ∃ rs : List (Str × A2), ds = rs.map rd ∧ rs.length = ds.length ∧ ∀ x ∈ rs, SmA x.2 := fun ds => by
      induction ds with
      | nil => intro _; exact ⟨[], rfl, rfl, fun x h => by cases h⟩
      | cons d ds ih =>
        intro h
        obtain ⟨g, z, rfl, hz⟩ := h 0 d rfl
        obtain ⟨rs, e, hl, hx⟩ := ih fun k d' hk => h (k + 1) d' (by simpa using hk)
        refine ⟨(g, z) :: rs, by rw [e]; rfl, by simp [hl], fun x hx2 => ?_⟩
        rcases List.mem_cons.mp hx2 with rfl | hx2
        · exact hz
        · exact hx x hx2
    obtain ⟨rs, e, hl, hx⟩ := key ds h2
    exact ⟨rs, e, by omega, hx⟩
  rintro ms ⟨rs, rfl, hl, hx⟩
  have fin : ∀ {rs : List (Str × A2)} {x y z u : Slot}, rs.length = ss.length → (∀ x ∈ rs, SmA x.2) → Go K (tRet (tVar 4)) [.box b, .d (.int (lo : Int)), .d (.int (hi : Int)), .d (sl ss), .own (rs.map rd), x, y, z, u] (fun _ => False) (fun ms r => ms[0]? = some (.box b) ∧ ∃ lo' hi' : Nat, [PyData.int (lo : Int), .int (hi : Int)] = [.int (lo' : Int), .int (hi' : Int)] ∧ RodsOk lo' hi' r) := fun h1 h2 =>
    go_retO (i := 4) rfl ⟨rfl, lo, hi, rfl, _, rfl, by omega, by omega, h2⟩
  refine go_seq (N1 := fun ms => ∃ (rs : List (Str × A2)) (x y z u : Slot), ms = [.box b, .d (.int (lo : Int)), .d (.int (hi : Int)), .d (sl ss), .own (rs.map rd), x, y, z, u] ∧ rs.length = ss.length ∧ ∀ x ∈ rs, SmA x.2) (go_if (PB := fun c => c = true → 1 < rs.length) (et_and (PA := fun c => c = decide ((1 : Int) < (rs.length : Int))) (PB := fun _ => True)
    (t_test (ev_B0 (P1 := (· = .int (rs.length : Int))) (ev_lenO (i := 4) (P := (· = .int (rs.length : Int))) rfl (by rw [List.length_map])) ev_int fun d1 d2 e1 e2 => ⟨_, _, e1, e2, rfl⟩)) (fun _ => et_test (P := fun d => ∃ c : Bool, d = .bool c) (ev_eqI (ca_draw (i := 0) (m := 6) rfl ev_int (by decide) (by decide)) ev_int fun d1 d2 ⟨k, e1, _⟩ e2 => ⟨_, _, e1, e2, _, rfl⟩) fun d ⟨c, e⟩ => ⟨c, e, trivial⟩)
    (fun _ z => by cases z) fun h c _ _ => by have := of_decide_eq_true h.symm; omega) (fun hc => ?_) fun _ => go_next ⟨rs, _, _, _, _, rfl, hl, hx⟩) ?_
  · have h1 : 1 < rs.length := hc rfl
    refine go_seq (N1 := fun ms => ∃ a : Int, ms = [.box b, .d (.int (lo : Int)), .d (.int (hi : Int)), .d (sl ss), .own (rs.map rd), .d (.int a), .no, .no, .no] ∧ 1 ≤ a ∧ a < rs.length) (go_set (P := fun d => ∃ a : Int, d = .int a ∧ 1 ≤ a ∧ a < rs.length) (ev_I0 ev_int (ca_draw (i := 0) (m := (rs.length : Int) - 1) rfl (e_sub (ev_lenO (i := 4) (P := (· = .int (rs.length : Int))) rfl (by rw [List.length_map])) ev_int) (by omega) (by omega)) fun d1 d2 e1 ⟨k, e2, k0, k1⟩ => ⟨_, _, e1, e2, 1 + k, rfl, by omega, by omega⟩) fun d ⟨a, e, h⟩ => by subst e; exact ⟨a, rfl, h⟩) ?_
    rintro ms ⟨a, rfl, a0, a1⟩
    have atr : ∀ {k : Int}, 0 ≤ k → k < rs.length → ∃ (g : Str) (z : A2), atI (rs.map rd) k = some (rd (g, z)) ∧ SmA z := fun {k} k0 k1 => by
      have hk : k.toNat < rs.length := by omega
      exact ⟨rs[k.toNat].1, rs[k.toNat].2, atI_pos k0 (by rw [List.getElem?_map, List.getElem?_eq_getElem hk]; rfl), hx _ (List.getElem_mem hk)⟩
    refine go_seq (N1 := fun ms => ∃ x y : Q2, ms = [.box b, .d (.int (lo : Int)), .d (.int (hi : Int)), .d (sl ss), .own (rs.map rd), .d (.int a), .d (pd x), .d (pd y), .no] ∧ SmQ x ∧ SmQ y) (go_asg (P := fun d => ∃ z, d = ad z ∧ SmA z) (ev_ixT (P1 := fun d => ∃ (g : Str) (z : A2), d = rd (g, z) ∧ SmA z) (ev_ixO (i := 4) rfl (ca_draw (i := 0) (m := a) rfl (ev_var (i := 5) rfl) (by omega) (by omega)) fun d2 ⟨k, e2, k0, k1⟩ => by
      obtain ⟨g, z, e, hz⟩ := atr k0 (by omega)
      exact ⟨k, _, e2, e, g, z, rfl, hz⟩) ev_int fun d1 d2 ⟨g, z, e1, hz⟩ e2 => ⟨_, _, _, e1, e2, at1, z, rfl, hz⟩) fun d ⟨z, e, hz⟩ => by subst e; exact ⟨_, tg_tup2, z.1, z.2, rfl, hz⟩) ?_
    rintro ms ⟨x, y, rfl, hx1, hy1⟩
    obtain ⟨g0, z0, eg, _⟩ := atr (k := a) (by omega) a1
    refine go_setI (i := 4) (P := (· = rd (g0, ((0 - x.1, x.2), (0 - y.1, y.2))))) rfl (e_pair (ev_ixT (P1 := (· = rd (g0, z0))) (P := (· = .str g0)) (ev_ixO (i := 4) rfl (ev_var (i := 5) rfl) fun d2 e2 => ⟨a, _, e2, eg, rfl⟩) ev_int fun d1 d2 e1 e2 => ⟨_, _, _, e1, e2, at0, rfl⟩)
      (e_pair (x := pd (0 - x.1, x.2)) (y := pd (0 - y.1, y.2)) (e_pair (e_sub ev_int (e_p0 (x := x) (ev_var (i := 6) rfl))) (e_p1 (x := x) (ev_var (i := 6) rfl))) (e_pair (e_sub ev_int (e_p0 (x := y) (ev_var (i := 7) rfl))) (e_p1 (x := y) (ev_var (i := 7) rfl))))) (ev_var (i := 5) rfl) fun d x' e1 e2 => ⟨a, a.toNat, e2, ?_, ?_⟩
    · unfold ixN
      rw [List.length_map]
      rw [if_pos (by omega), if_pos (by omega)]
    · subst e1
      refine ⟨rs.set a.toNat (g0, ((0 - x.1, x.2), (0 - y.1, y.2))), _, _, _, _, by rw [List.map_set]; rfl, by rw [List.length_set, hl], fun r hr => ?_⟩
      rcases List.mem_or_eq_of_mem_set hr with hr | rfl
      · exact hx r hr
      · exact ⟨hx1.neg, hy1.neg⟩
  rintro ms ⟨rs, x, y, z, u, rfl, hl, hx⟩
  exact fin hl hx
end
end Ct
namespace Ct
open PySem PySem.Spec PyProof.Rows L2 He

/-! ### box -/
def spBox (K : PySem.W.Frag) : Sp := fun vs H Q _ => ∃ (a : Addr) (xs : List Int), vs = [.ref a] ∧ SqL K H a (xs.map .int) ∧
  ∀ (b sl : Addr) (H' : Hp), Same H H' → H b = none → H sl = none → sl ≠ b → H' b = some (.lst (bv sl 0 0 53 0)) → H' sl = some (.lst ((xs.take 63).map .int)) → Q (.ref b) H'
/-! ### bent whole -/
def aW (a : TupW) : List PyData := [ld a.1, ld a.2.1, pl a.2.2]
theorem aW_inj {a b : TupW} (h : aW a = aW b) : a = b := by
  unfold aW at h
  injection h with h1 h2
  injection h2 with h2 h3
  injection h3 with h3 _
  exact Prod.ext (ld_inj h1) (Prod.ext (ld_inj h2) (pl_inj h3))
abbrev spBent (K : PySem.W.Frag) : Sp := SpB K (fun ds => ∃ a, ds = aW a ∧ OkBent a) (fun ds r => ∃ a b, ds = aW a ∧ r = .tuple (aW b) ∧ Bent a b)
theorem sz21 : Sz (2, 1) := ⟨by
  show (2 : Int).natAbs < 2 ^ 200000
  exact Nat.lt_of_lt_of_le (show 2 < 2 ^ 2 by decide) (Nat.pow_le_pow_right (by decide) (by decide)), by
  show (1 : Int).natAbs < 2 ^ 200000
  exact Nat.lt_of_lt_of_le (show 1 < 2 ^ 1 by decide) (Nat.pow_le_pow_right (by decide) (by decide)), by decide⟩
section
variable {K : PySem.W.Frag} {ms : List Slot} {ta tb te : TE}
theorem e_slTo {xs : List PyData} {k : Nat} (hk : k ≤ xs.length) (h : Ev K ta ms (· = .list xs)) (h2 : Ev K tb ms (· = .int (k : Int))) : Ev K (tSl (rSlL K) ta tNoPart (tPart tb)) ms (· = .list (xs.take k)) := by
  have q := e_sl h eo_none (eo_some h2)
  rwa [cut_to hk] at q
theorem e_slFrom {xs : List PyData} {k : Nat} (hk : k + 1 ≤ xs.length) (h : Ev K ta ms (· = .list xs)) (h2 : Ev K tb ms (· = .int (k : Int))) : Ev K (tSl (rSlL K) ta (tPart (tOp (rI0 fun i j => .int (i + j)) tb (tC (.int 1)))) tNoPart) ms (· = .list (xs.drop (k + 1))) := by
  have q := e_sl h (eo_some (e_add (b := 1) h2 ev_int)) eo_none
  have e : (k : Int) + 1 = ((k + 1 : Nat) : Int) := by omega
  rwa [e, cut_from hk] at q
end
section
variable {P : Program} {w : World} {K : PySem.W.Frag} {mg : Str → Option Value} {base : Heap}
abbrev s_l_box : Stmt := topS 63
theorem sc_l_box : FnScope ["_law_script"] ["_law_script"] (defScope s_l_box) := ⟨rfl, rfl, rfl, by decide +kernel, rfl, by decide +kernel, by decide +kernel⟩
theorem ok_l_box (T : IsDef K mg "_law_box" s_l_box) (mi : mg "list" = none) : OkD P w K mg base "_law_box" 33 ["_law_script"] [] (spBox K) := by
  obtain ⟨m, fd, F⟩ := T
  refine ⟨fd, [], ?_, F.bindsN (fun _ _ _ _ _ _ us hl => match us, hl with | [_], _ => rfl), .nil, m, F.kp⟩
  refine F.ok (k := 32) sc_l_box (fun vs H Q E h => ?_) (fun cdv A outer s H vs Q E hr h => ?_)
  · obtain ⟨a, xs, rfl, _⟩ := h
    rfl
  · obtain ⟨a, xs, rfl, ha, h⟩ := h
    refine ⟨_, pss_one (ps_ret (pe_lst (pa_cons (pe_callTy call_list_of (by rfl) mi (by decide +kernel) (pa_cons (pe_slice sl_list (pv 0) po_none (po_some pe_int)) pa_nil)) (pa_cons pe_int (pa_cons pe_int (pa_cons pe_int (pa_cons pe_int pa_nil))))))), ?_⟩
    refine ⟨.ref a, rfl, 63, rfl, a, xs.map .int, rfl, ha, fun c hc => ?_⟩
    have ec : cutV (xs.map V.int) none (some 63) = (xs.take 63).map V.int := by
      show cutD (xs.map V.int) none (some 63) = _
      rw [cut_map]
      by_cases hl : 63 ≤ xs.length
      · rw [show (63 : Int) = ((63 : Nat) : Int) from rfl, cut_to hl]
      · unfold cutD
        rw [HT.sIx_none, show (63 : Int) = ((63 : Nat) : Int) from rfl, HT.sIx_nat, Nat.min_eq_right (by omega)]
        simp only [List.drop_zero, Nat.sub_zero]
        rw [List.take_of_length_le (Nat.le_refl _), List.take_of_length_le (by omega)]
    refine ⟨c, _, rfl, .inl (.inl (.inl upd_same)), fun sl hsl => ?_⟩
    have nsl : sl ≠ c := fun z => by rw [z, upd_same] at hsl; cases hsl
    refine ⟨show 5 ≤ sizeLine by decide, fun b hb => ?_⟩
    have nb1 : b ≠ sl := fun z => by rw [z, upd_same] at hb; cases hb
    have nb2 : b ≠ c := fun z => by rw [z, upd_ne (Ne.symm nsl), upd_same] at hb; cases hb
    have hb0 : H b = none := by rw [upd_ne nb1, upd_ne nb2] at hb; exact hb
    have hs0 : H sl = none := by rw [upd_ne nsl] at hsl; exact hsl
    refine h b sl _ (fun x o e => ?_) hb0 hs0 (Ne.symm nb1) upd_same ?_
    · rw [upd_ne (ne_of_none e hb0), upd_ne (ne_of_none e hs0), upd_ne (ne_of_none e hc)]; exact e
    · rw [upd_ne (Ne.symm nb1), upd_same, ec]
abbrev s_l_bent : Stmt := topS 74
theorem sc_l_bent : FnScope ["_law_box_here", "_law_p", "_law_q", "_law_weights", "_law_at_here", "_law_way", "_law_z", "_law_one"] ["_law_box_here", "_law_p", "_law_q", "_law_weights"] (defScope s_l_bent) := ⟨rfl, rfl, rfl, by decide +kernel, rfl, by decide +kernel, by decide +kernel⟩
theorem ok_l_bent (T : IsDef K mg "_law_bent_whole" s_l_bent) (ml : mg "len" = none) (hd : OkD P w K mg base "_law_draw" 33 ["_law_box_here", "_law_many"] [] (spDraw K)) (hs : OkD P w K mg base "_law_spot" 36 ["_law_box_here"] [] (spSpot K))
    (hsh : OkD P w K mg base "_law_shuffled" 34 ["_law_box_here", "_law_row"] [] (spShuf K)) (hof : OkD P w K mg base "_law_often" 36 ["_law_one", "_law_many"] [] (spOften K)) :
    OkD P w K mg base "_law_bent_whole" 37 ["_law_box_here", "_law_p", "_law_q", "_law_weights"] [] (spBent K) := by
  refine okB T sc_l_bent (fun _ _ _ _ _ _ us hl => match us, hl with | [_, _, _, _], _ => rfl) (fun ds ⟨a, e, _⟩ => by rw [e]; rfl) fun cdv A outer s H E hr => ?_
  have hr3 : Room 33 (A.deeper (envOfC "_law_bent_whole" (defScope s_l_bent) s.heap.objs.size (ga K "_law_bent_whole") cdv)) := hr.mono (by decide)
  have hr4 : Room 34 (A.deeper (envOfC "_law_bent_whole" (defScope s_l_bent) s.heap.objs.size (ga K "_law_bent_whole") cdv)) := hr.mono (by decide)
  refine ⟨_,
    pss_cons (ps_par (i := 4) (j := 5) rfl sc_l_bent.nd rfl rfl (by decide) rfl rfl (pa_cons (pe_fn hd hr3 (pa_cons (pv 0) (pa_cons (pe_callB call_len_seq (by rfl) ml PySem.boot_len (pa_cons (pv 2) pa_nil)) pa_nil))) (pa_cons (pe_fn hd hr3 (pa_cons (pv 0) (pa_cons pe_int pa_nil))) pa_nil)) (by rfl))
    (pss_cons (ps_set (i := 6) sc_l_bent.nd rfl (.inl rfl) (pe_fn hs hr (pa_cons (pv 0) pa_nil)))
    (pss_cons (ps_if (pt_cmpR op_eq (pv 5) pe_int (nomark _)) (pss_one (ps_ret (pe_tup (pa_cons (pe_op op_catL (pe_op op_catL (pe_slice sl_list (pv 1) po_none (po_some (pv 4))) (pe_lst (pa_cons (pv 6) pa_nil))) (pe_slice sl_list (pv 1) (po_some (pe_op op_add (pv 4) pe_int)) po_none)) (pa_cons (pv 2) (pa_cons (pv 3) pa_nil)))))) pss_nil)
    (pss_cons (ps_if (pt_cmpR op_eq (pv 5) pe_int (nomark _)) (pss_one (ps_ret (pe_tup (pa_cons (pv 1) (pa_cons (pe_op op_catL (pe_op op_catL (pe_slice sl_list (pv 2) po_none (po_some (pv 4))) (pe_lst (pa_cons (pv 6) pa_nil))) (pe_slice sl_list (pv 2) (po_some (pe_op op_add (pv 4) pe_int)) po_none)) (pa_cons (pv 3) pa_nil)))))) pss_nil)
    (pss_cons (ps_if (pt_cmpR op_eq (pv 5) pe_int (nomark _)) (pss_one (ps_ret (pe_tup (pa_cons (pe_op op_catL (pv 1) (pe_lst (pa_cons (pv 6) pa_nil))) (pa_cons (pv 2) (pa_cons (pv 3) pa_nil)))))) pss_nil)
    (pss_cons (ps_if (pt_cmpR op_eq (pv 5) pe_int (nomark _)) (pss_one (ps_ret (pe_tup (pa_cons (pv 1) (pa_cons (pe_op op_catL (pe_slice sl_list (pv 2) po_none (po_some (pv 4))) (pe_slice sl_list (pv 2) (po_some (pe_op op_add (pv 4) pe_int)) po_none)) (pa_cons (pv 3) pa_nil)))))) pss_nil)
    (pss_cons (ps_if (pt_cmpR op_eq (pv 5) pe_int (nomark _)) (pss_one (ps_ret (pe_tup (pa_cons (pv 1) (pa_cons (pv 2) (pa_cons (pe_fn hsh hr4 (pa_cons (pv 0) (pa_cons (pv 3) pa_nil))) pa_nil)))))) pss_nil)
    (pss_cons (ps_if (pt_cmpR op_eq (pv 5) pe_int (nomark _)) (pss_one (ps_ret (pe_tup (pa_cons (pv 1) (pa_cons (pv 2) (pa_cons (pe_op op_catL (pe_op op_catL (pe_slice sl_list (pv 3) po_none (po_some (pv 4))) (pe_lst (pa_cons (pe_tup (pa_cons (pe_op op_add pe_int (pe_fn hd hr3 (pa_cons (pv 0) (pa_cons pe_int pa_nil)))) (pa_cons pe_int pa_nil))) pa_nil))) (pe_slice sl_list (pv 3) (po_some (pe_op op_add (pv 4) pe_int)) po_none)) pa_nil)))))) pss_nil)
    (pss_cons (ps_if (pt_cmpR op_eq (pv 5) pe_int (nomark _)) (pss_one (ps_ret (pe_tup (pa_cons (pe_lc (own := [("_law_one", 7)]) (g := gName 7) (tt := tYes) rfl sc_l_bent.nd (pi_list (pv 1)) (blkOk_by (N := ["_law_box_here", "_law_p", "_law_q", "_law_weights", "_law_at_here", "_law_way", "_law_z", "_law_one"]) (sc := defScope s_l_bent) (by decide +kernel))
          (fun _ _ _ _ _ => pg_name (i := 7) sc_l_bent.nd rfl (.inl rfl)) (fun _ _ _ _ _ => pts_nil) (fun _ _ _ _ _ => pe_fn hof hr (pa_cons (pv 7) (pa_cons (pe_tup (pa_cons pe_int (pa_cons pe_int pa_nil))) pa_nil))))
        (pa_cons (pe_lc (own := [("_law_one", 7)]) (g := gName 7) (tt := tYes) rfl sc_l_bent.nd (pi_list (pv 2)) (blkOk_by (N := ["_law_box_here", "_law_p", "_law_q", "_law_weights", "_law_at_here", "_law_way", "_law_z", "_law_one"]) (sc := defScope s_l_bent) (by decide +kernel))
          (fun _ _ _ _ _ => pg_name (i := 7) sc_l_bent.nd rfl (.inl rfl)) (fun _ _ _ _ _ => pts_nil) (fun _ _ _ _ _ => pe_fn hof hr (pa_cons (pv 7) (pa_cons (pe_tup (pa_cons pe_int (pa_cons pe_int pa_nil))) pa_nil))))
        (pa_cons (pv 3) pa_nil)))))) pss_nil)
    (pss_one (ps_ret (pe_tup (pa_cons (pv 1) (pa_cons (pv 2) (pa_cons (pv 3) pa_nil)))))))))))))), ?_⟩
  rintro b ds ⟨⟨p, q, ws⟩, rfl, o1, o2, o3, o4, o5, o6⟩
  have o1 : ∀ x ∈ p, SzA x ∧ SzA (often x (2, 1)) := o1
  have o2 : ∀ x ∈ q, SzA x ∧ SzA (often x (2, 1)) := o2
  have o3 : 1 ≤ q.length := o3
  have o4 : q.length ≤ 200 := o4
  have o5 : p.length = q.length + 1 := o5
  have o6 : ws.length = q.length := o6
  have eld : ∀ xs : List A2, ld xs = .list (xs.map ad) := fun _ => rfl
  refine go_seq (N1 := fun ms => ∃ (k : Nat) (y : Int), ms = [.box b, .d (ld p), .d (ld q), .d (pl ws), .d (.int (k : Int)), .d (.int y), .no, .no] ∧ k < q.length) (go_par (ea_cons (ca_draw (i := 0) (m := (q.length : Int)) rfl (e_lenL (ev_var (i := 2) rfl)) (by omega) (by omega)) (ea_cons (ca_draw (i := 0) (m := 8) rfl ev_int (by decide) (by decide)) ea_nil)) ?_) ?_
  · rintro ds ⟨d, r, rfl, ⟨k, rfl, k0, k1⟩, d2, r2, rfl, ⟨y, rfl, _⟩, rfl⟩
    exact ⟨_, _, rfl, k.toNat, y, by rw [show ((k.toNat : Nat) : Int) = k by omega]; rfl, by omega⟩
  rintro ms ⟨k, y, rfl, hk⟩
  refine go_seq (N1 := fun ms => ∃ z, ms = [.box b, .d (ld p), .d (ld q), .d (pl ws), .d (.int (k : Int)), .d (.int y), .d (ad z), .no] ∧ SmA z) (go_set (ca_box0 (i := 0) (P := fun d => ∃ x, d = ad x ∧ SmA x) rfl fun d h => h) fun d ⟨z, e, hz⟩ => by subst e; exact ⟨z, rfl, hz⟩) ?_
  rintro ms ⟨z, rfl, hz⟩
  have res : ∀ {p' q' : List A2} {w' : List Q2}, Bent (p, q, ws) (p', q', w') → ∃ a b, aW (p, q, ws) = aW a ∧ PyData.tuple [ld p', ld q', pl w'] = .tuple (aW b) ∧ Bent a b := fun h => ⟨_, _, rfl, rfl, h⟩
  have tup3 : ∀ {ms : List Slot} {ta tb tc : TE} {x y z : PyData}, Ev K ta ms (· = x) → Ev K tb ms (· = y) → Ev K tc ms (· = z) → Ev K (tTup (tCons ta (tCons tb (tCons tc tNil)))) ms (· = .tuple [x, y, z]) := fun a b c => ev_tup (ea_3 a b c) fun ds e => by rw [e]; exact ⟨by simp, rfl⟩
  have okz : ∀ {l m : List A2} {f : A2 → Prop}, (∀ x ∈ l, f x) → (∀ x ∈ m, f x) → f z → ∀ x ∈ l ++ [z] ++ m, f x := fun h1 h2 h3 x hx => by
    rcases List.mem_append.mp hx with hx | hx
    · rcases List.mem_append.mp hx with hx | hx
      · exact h1 x hx
      · rw [List.mem_singleton.mp hx]; exact h3
    · exact h2 x hx
  refine go_seq (N1 := fun ms => ms = [.box b, .d (ld p), .d (ld q), .d (pl ws), .d (.int (k : Int)), .d (.int y), .d (ad z), .no]) (go_if (t_test (e_eqI (ev_var (i := 5) rfl) ev_int)) (fun _ => go_ret (tup3 (e_cat (e_cat (e_slTo (k := k) (xs := p.map ad) (by rw [List.length_map]; omega) (ev_var (i := 1) rfl) (ev_var (i := 4) rfl)) (ev_lst (ea_1 (ev_var (i := 6) rfl)) fun ds e => by rw [e]; exact ⟨by simp, rfl⟩) (by simp; omega)) (e_slFrom (k := k) (xs := p.map ad) (by rw [List.length_map]; omega) (ev_var (i := 1) rfl) (ev_var (i := 4) rfl)) (by simp; omega)) (ev_var (i := 2) rfl) (ev_var (i := 3) rfl)) fun d e => ⟨rfl, by
      subst e
      have e2 : PyData.list ((p.map ad).take k ++ [ad z] ++ (p.map ad).drop (k + 1)) = ld (p.take k ++ [z] ++ p.drop (k + 1)) := by unfold ld; rw [List.map_append, List.map_append, List.map_take, List.map_drop]; rfl
      rw [e2]
      exact res ⟨okz (fun x h => .inl (List.mem_of_mem_take h)) (fun x h => .inl (List.mem_of_mem_drop h)) (.inr (.inl hz)), fun x h => .inl h, fun x h => .inl h, by simp; omega, Nat.le_refl _, rfl⟩⟩) fun _ => go_next rfl) ?_
  rintro ms rfl
  refine go_seq (N1 := fun ms => ms = [.box b, .d (ld p), .d (ld q), .d (pl ws), .d (.int (k : Int)), .d (.int y), .d (ad z), .no]) (go_if (t_test (e_eqI (ev_var (i := 5) rfl) ev_int)) (fun _ => go_ret (tup3 (ev_var (i := 1) rfl) (e_cat (e_cat (e_slTo (k := k) (xs := q.map ad) (by rw [List.length_map]; omega) (ev_var (i := 2) rfl) (ev_var (i := 4) rfl)) (ev_lst (ea_1 (ev_var (i := 6) rfl)) fun ds e => by rw [e]; exact ⟨by simp, rfl⟩) (by simp; omega)) (e_slFrom (k := k) (xs := q.map ad) (by rw [List.length_map]; omega) (ev_var (i := 2) rfl) (ev_var (i := 4) rfl)) (by simp; omega)) (ev_var (i := 3) rfl)) fun d e => ⟨rfl, by
      subst e
      have e2 : PyData.list ((q.map ad).take k ++ [ad z] ++ (q.map ad).drop (k + 1)) = ld (q.take k ++ [z] ++ q.drop (k + 1)) := by unfold ld; rw [List.map_append, List.map_append, List.map_take, List.map_drop]; rfl
      rw [e2]
      exact res ⟨fun x h => .inl h, okz (fun x h => .inl (List.mem_of_mem_take h)) (fun x h => .inl (List.mem_of_mem_drop h)) (.inr (.inl hz)), fun x h => .inl h, by show p.length ≤ p.length + 1; omega, by show (q.take k ++ [z] ++ q.drop (k + 1)).length ≤ q.length; simp; omega, rfl⟩⟩) fun _ => go_next rfl) ?_
  rintro ms rfl
  refine go_seq (N1 := fun ms => ms = [.box b, .d (ld p), .d (ld q), .d (pl ws), .d (.int (k : Int)), .d (.int y), .d (ad z), .no]) (go_if (t_test (e_eqI (ev_var (i := 5) rfl) ev_int)) (fun _ => go_ret (tup3 (e_cat (xs := p.map ad) (ev_var (i := 1) rfl) (ev_lst (ea_1 (ev_var (i := 6) rfl)) fun ds e => by rw [e]; exact ⟨by simp, rfl⟩) (by simp; omega)) (ev_var (i := 2) rfl) (ev_var (i := 3) rfl)) fun d e => ⟨rfl, by
      subst e
      have e2 : PyData.list (p.map ad ++ [ad z]) = ld (p ++ [z] ++ []) := by unfold ld; rw [List.append_nil, List.map_append]; rfl
      rw [e2]
      exact res ⟨okz (fun x h => .inl h) (fun x h => by cases h) (.inr (.inl hz)), fun x h => .inl h, fun x h => .inl h, by show (p ++ [z] ++ []).length ≤ p.length + 1; simp, Nat.le_refl _, rfl⟩⟩) fun _ => go_next rfl) ?_
  rintro ms rfl
  refine go_seq (N1 := fun ms => ms = [.box b, .d (ld p), .d (ld q), .d (pl ws), .d (.int (k : Int)), .d (.int y), .d (ad z), .no]) (go_if (t_test (e_eqI (ev_var (i := 5) rfl) ev_int)) (fun _ => go_ret (tup3 (ev_var (i := 1) rfl) (e_cat (e_slTo (k := k) (xs := q.map ad) (by rw [List.length_map]; omega) (ev_var (i := 2) rfl) (ev_var (i := 4) rfl)) (e_slFrom (k := k) (xs := q.map ad) (by rw [List.length_map]; omega) (ev_var (i := 2) rfl) (ev_var (i := 4) rfl)) (by simp; omega)) (ev_var (i := 3) rfl)) fun d e => ⟨rfl, by
      subst e
      have e2 : PyData.list ((q.map ad).take k ++ (q.map ad).drop (k + 1)) = ld (q.take k ++ q.drop (k + 1)) := by unfold ld; rw [List.map_append, List.map_take, List.map_drop]
      rw [e2]
      refine res ⟨fun x h => .inl h, fun x h => ?_, fun x h => .inl h, by show p.length ≤ p.length + 1; omega, by show (q.take k ++ q.drop (k + 1)).length ≤ q.length; simp; omega, rfl⟩
      rcases List.mem_append.mp h with h | h
      · exact .inl (List.mem_of_mem_take h)
      · exact .inl (List.mem_of_mem_drop h)⟩) fun _ => go_next rfl) ?_
  rintro ms rfl
  refine go_seq (N1 := fun ms => ms = [.box b, .d (ld p), .d (ld q), .d (pl ws), .d (.int (k : Int)), .d (.int y), .d (ad z), .no]) (go_if (t_test (e_eqI (ev_var (i := 5) rfl) ev_int)) (fun _ => go_ret (P := fun d => ∃ vs : List Q2, d = .tuple [ld p, ld q, pl vs] ∧ vs.length = ws.length ∧ ∀ x ∈ vs, x ∈ ws) (ev_tup (ea_cons (ev_var (i := 1) rfl) (ea_cons (ev_var (i := 2) rfl) (ea_cons (ev_callB (P := ShOk ws) (i := 0) rfl (ea_1 (ev_var (i := 3) rfl)) fun ds e => ⟨⟨ws, e, by omega⟩, fun r ⟨ws', e', h⟩ => by
      rw [e] at e'
      injection e' with e' _
      rw [pl_inj e']; exact h⟩) ea_nil))) fun ds ⟨d, r, e1, e2, d', r', e3, e4, d'', r'', e5, ⟨vs, e6, h⟩, e7⟩ => ⟨by rw [e1, e3, e5, e7]; simp, vs, by rw [e1, e2, e3, e4, e5, e6, e7], h⟩) fun d ⟨vs, e, h1, h2⟩ => ⟨rfl, by
      subst e
      exact res ⟨fun x h => .inl h, fun x h => .inl h, fun x h => .inl (h2 x h), by show p.length ≤ p.length + 1; omega, Nat.le_refl _, h1⟩⟩) fun _ => go_next rfl) ?_
  rintro ms rfl
  refine go_seq (N1 := fun ms => ms = [.box b, .d (ld p), .d (ld q), .d (pl ws), .d (.int (k : Int)), .d (.int y), .d (ad z), .no]) (go_if (t_test (e_eqI (ev_var (i := 5) rfl) ev_int)) (fun _ => go_ret (P := fun d => ∃ m : Int, 1 ≤ m ∧ m ≤ 40 ∧ d = .tuple [ld p, ld q, pl (ws.take k ++ [(m, 1)] ++ ws.drop (k + 1))]) (ev_tup (ea_cons (ev_var (i := 1) rfl) (ea_cons (ev_var (i := 2) rfl) (ea_cons (P := fun d => ∃ m : Int, 1 ≤ m ∧ m ≤ 40 ∧ d = pl (ws.take k ++ [(m, 1)] ++ ws.drop (k + 1))) (EvN.ev (PL := fun ds => ∃ m : Int, 1 ≤ m ∧ m ≤ 40 ∧ ds = (ws.take k ++ [(m, 1)] ++ ws.drop (k + 1)).map pd) (en_catP (PA := fun d => ∃ m : Int, 1 ≤ m ∧ m ≤ 40 ∧ d = .list ((ws.take k ++ [(m, 1)]).map pd))
      (EvN.ev (PL := fun ds => ∃ m : Int, 1 ≤ m ∧ m ≤ 40 ∧ ds = (ws.take k ++ [(m, 1)]).map pd) (en_catP (e_slTo (k := k) (xs := ws.map pd) (by rw [List.length_map]; omega) (ev_var (i := 3) rfl) (ev_var (i := 4) rfl)) (ev_lst (P := fun d => ∃ m : Int, 1 ≤ m ∧ m ≤ 40 ∧ d = .list [pd (m, 1)]) (ea_cons (P := fun d => ∃ m : Int, 1 ≤ m ∧ m ≤ 40 ∧ d = pd (m, 1)) (ev_tup (ea_cons (P := fun d => ∃ m : Int, 1 ≤ m ∧ m ≤ 40 ∧ d = .int m) (ev_I0 ev_int (ca_draw (i := 0) (m := 40) rfl ev_int (by decide) (by decide)) fun d1 d2 e1 ⟨k, e2, k0, k1⟩ => ⟨_, _, e1, e2, 1 + k, by omega, by omega, rfl⟩) (ea_1 ev_int))
        fun ds ⟨d, r, e1, ⟨m, m0, m1, e2⟩, e3⟩ => ⟨by rw [e1, e3]; simp, m, m0, m1, by rw [e1, e2, e3]; rfl⟩) ea_nil) fun ds ⟨d, r, e1, ⟨m, m0, m1, e2⟩, e3⟩ => ⟨by rw [e1, e3]; simp, m, m0, m1, by rw [e1, e2, e3]⟩)
        fun d e e1 ⟨m, m0, m1, e2⟩ => ⟨_, _, e1, e2, by simp; omega, m, m0, m1, by rw [List.map_append, List.map_take]; rfl⟩) fun ds ⟨m, m0, m1, e⟩ => ⟨m, m0, m1, by rw [e]⟩)
      (e_slFrom (k := k) (xs := ws.map pd) (by rw [List.length_map]; omega) (ev_var (i := 3) rfl) (ev_var (i := 4) rfl)) fun d e ⟨m, m0, m1, e1⟩ e2 => ⟨_, _, e1, e2, by simp; omega, m, m0, m1, by simp⟩) fun ds ⟨m, m0, m1, e⟩ => ⟨m, m0, m1, by rw [e]; rfl⟩) ea_nil)))
      fun ds ⟨d, r, e1, e2, d', r', e3, e4, d'', r'', e5, ⟨m, m0, m1, e6⟩, e7⟩ => ⟨by rw [e1, e3, e5, e7]; simp, m, m0, m1, by rw [e1, e2, e3, e4, e5, e6, e7]⟩) fun d ⟨m, m0, m1, e⟩ => ⟨rfl, by
      subst e
      refine res ⟨fun x h => .inl h, fun x h => .inl h, fun x hx => ?_, by show p.length ≤ p.length + 1; omega, Nat.le_refl _, by show (ws.take k ++ [(m, 1)] ++ ws.drop (k + 1)).length = ws.length; simp; omega⟩
      rcases List.mem_append.mp hx with hx | hx
      · rcases List.mem_append.mp hx with hx | hx
        · exact .inl (List.mem_of_mem_take hx)
        · rw [List.mem_singleton.mp hx]; exact .inr ⟨m, m0, m1, rfl⟩
      · exact .inl (List.mem_of_mem_drop hx)⟩) fun _ => go_next rfl) ?_
  rintro ms rfl
  have lcs : ∀ {i : Nat} {xs : List A2} {ms : List Slot}, ms[i]? = some (.d (ld xs)) → ms[7]? = some .no → (∀ m j, j ≠ 7 → (ms.set 7 m)[j]? = ms[j]?) → 7 < ms.length → (∀ x ∈ xs, SzA x) → xs.length ≤ 900 → Ev K (tLc (iList K (tVar i)) (gName 7) tYes (tCall (spOften K) [] E0 (tCons (tVar 7) (tCons (tTup (tCons (tC (.int 2)) (tCons (tC (.int 1)) tNil))) tNil))) [7]) ms (· = ld (xs.map fun x => often x (2, 1))) :=
    fun {i xs ms} h1 h2 h3 h4 h5 h6 => EvN.ev (PL := (· = (xs.map fun x => often x (2, 1)).map ad)) (ev_lcL (ds := xs.map ad) (j := 7) (x := fun k d => ∃ z, xs[k]? = some z ∧ d = ad (often z (2, 1))) (ev_var h1) (by rw [List.length_map]; exact h6) h2 (fun k d hk => by
      rw [List.getElem?_map] at hk
      cases e : xs[k]? with
      | none => rw [e] at hk; cases hk
      | some z =>
        rw [e] at hk
        have hk : ad z = d := Option.some.inj hk
        subst hk
        exact (ca_AP (b := (2, 1)) (ev_var (i := 7) (by rw [List.getElem?_set_self h4])) (e_pair ev_int ev_int) ⟨h5 z (List.mem_of_getElem? e), sz21⟩).weak fun d e => ⟨z, rfl, e⟩) fun ds h1 h2 => by
      apply List.ext_getElem?
      intro k
      by_cases hk : k < ds.length
      · obtain ⟨z, hz, ez⟩ := h2 k _ (List.getElem?_eq_getElem hk)
        rw [List.getElem?_eq_getElem hk, ez, List.getElem?_map, List.getElem?_map, hz]
        rfl
      · rw [List.getElem?_eq_none (by omega), List.getElem?_eq_none (by simp at h1 ⊢; omega)]) fun ds e => by rw [e]; rfl
  refine go_seq (N1 := fun ms => ms = [.box b, .d (ld p), .d (ld q), .d (pl ws), .d (.int (k : Int)), .d (.int y), .d (ad z), .no]) (go_if (t_test (e_eqI (ev_var (i := 5) rfl) ev_int)) (fun _ => go_ret (tup3 (lcs (i := 1) (xs := p) rfl rfl (fun m j hj => List.getElem?_set_ne (Ne.symm hj)) (show 7 < 8 by decide) (fun x h => (o1 x h).1) (by omega)) (lcs (i := 2) (xs := q) rfl rfl (fun m j hj => List.getElem?_set_ne (Ne.symm hj)) (show 7 < 8 by decide) (fun x h => (o2 x h).1) (by omega)) (ev_var (i := 3) rfl)) fun d e => ⟨rfl, by
      subst e
      refine res ⟨fun x h => ?_, fun x h => ?_, fun x h => .inl h, by show (p.map _).length ≤ p.length + 1; simp, by show (q.map _).length ≤ q.length; simp, rfl⟩
      · obtain ⟨y, hy, e⟩ := List.mem_map.mp h
        exact .inr (.inr ⟨y, hy, e.symm⟩)
      · obtain ⟨y, hy, e⟩ := List.mem_map.mp h
        exact .inr (.inr ⟨y, hy, e.symm⟩)⟩) fun _ => go_next rfl) ?_
  rintro ms rfl
  exact go_ret (tup3 (ev_var (i := 1) rfl) (ev_var (i := 2) rfl) (ev_var (i := 3) rfl)) fun d e => ⟨rfl, by
    subst e
    exact res ⟨fun x h => .inl h, fun x h => .inl h, fun x h => .inl h, by show p.length ≤ p.length + 1; omega, Nat.le_refl _, rfl⟩⟩
end
end Ct
namespace Ct
open PySem PySem.Spec PyProof.Rows L2 He

def LikeD : Nat → PyData → Prop
  | 0, _ => False
  | _ + 1, .int _ => True
  | _ + 1, .str _ => True
  | n + 1, .list ds => ds.length ≤ 800 ∧ ∀ d ∈ ds, LikeD n d
  | n + 1, .tuple ds => ds.length ≤ 800 ∧ ∀ d ∈ ds, LikeD n d
  | _ + 1, _ => False
abbrev spLike (K : PySem.W.Frag) (n : Nat) : Sp := SpP K (fun ds => ∃ d, ds = [d, d] ∧ LikeD n d) (fun ds r => r = .bool true)
/-- the name of a datum's type -/
def tnD : PyData → String
  | .int _ => "int"
  | .str _ => "str"
  | .list _ => "list"
  | .tuple _ => "tuple"
  | .bool _ => "bool"
  | .none => "NoneType"
  | .dict _ => "dict"
theorem tyx_of {K : PySem.W.Frag} {H : Hp} : ∀ {v : V} {d : PyData}, Dp K H v d → TyX K H v (.type (tnD d))
  | _, .none, h => by cases h; exact .base .non
  | _, .bool b, h => by cases h; exact .base (.bl b)
  | _, .int i, h => by cases h; exact .base (.int i)
  | _, .str x, h => by cases h; exact .base (.str x)
  | _, .list ds, h => by
    cases h with
    | lst hs ha =>
      rcases hs with (hs | ⟨o, hs⟩) | ⟨o, its, n, hk, hc, _⟩
      · exact .base (.lst hs)
      · exact .base (.frz hs)
      · exact .kList hk hc
  | _, .tuple ds, h => by
    cases h with
    | tup hs ha =>
      rcases hs with (hs | ⟨o, hs⟩) | ⟨o, its, n, hk, hc, _⟩
      · exact .base (.tup hs)
      · exact .fTuple hs
      · exact .kTuple hk hc
  | _, .dict _, h => by cases h
section
variable {K : PySem.W.Frag} {ms : List Slot} {ta tb te : TE} {al : TA} {P P1 P2 : PyData → Prop} {i : Nat} {d : PyData}
theorem ev_isi {T : String} {b : Bool} (hi : ms[i]? = some (.d d)) (e : PySem.W.kitOne K (.type (tnD d)) (.type T) = some b) : Ev K (tCB (rIsi K) (tCons (tVar i) (tCons (tC (.ty T)) tNil))) ms (· = .bool b) := fun C B p0 ps σ H E Q k => by
  obtain ⟨v, a, hd⟩ := E.slots i _ hi
  exact ⟨v, a, v, .ty T, .type (tnD d), .type T, b, rfl, .ty T, tyx_of (hd.to (hides_le _ _)), e, k _ H _ rfl E (.bl _)⟩
theorem ev_isiLT {b : Bool} (hi : ms[i]? = some (.d d)) (e : PySem.W.kitAny K (.type (tnD d)) [.type "list", .type "tuple"] = some b) : Ev K (tCB (rIsiT K) (tCons (tVar i) (tCons (tTup (tCons (tC (.ty "list")) (tCons (tC (.ty "tuple")) tNil))) tNil))) ms (· = .bool b) := fun C B p0 ps σ H E Q k => by
  obtain ⟨v, a, hd⟩ := E.slots i _ hi
  refine ⟨v, a, show 2 ≤ sizeLine by decide, fun p hp => ?_⟩
  have s : Same H (upd H p (.tup [.ty "list", .ty "tuple"])) := same_new hp
  exact ⟨v, p, _, .type (tnD d), _, b, rfl, upd_same, .cons (.ty _) (.cons (.ty _) .nil), tyx_of ((hd.to (hides_le _ _)).to s), e, k _ _ _ rfl (E.to s) (.bl _)⟩
theorem ev_ixLT (ha : Ev K ta ms P1) (hb : Ev K tb ms P2) (h : ∀ d1 d2, P1 d1 → P2 d2 → ∃ ds i d, (d1 = .list ds ∨ d1 = .tuple ds) ∧ d2 = .int i ∧ atI ds i = some d ∧ P d) : Ev K (tOp (rIx K) ta tb) ms P :=
  ev_op ha hb fun ps H x y d1 d2 Q _ p1 p2 hx hy k => by
    obtain ⟨ds, i, d, e1, rfl, ea, pp⟩ := h d1 d2 p1 p2
    rcases e1 with rfl | rfl
    · obtain ⟨a, vs, rfl, hs, hv⟩ := dp_list hx
      obtain ⟨v, ev, hd⟩ := dp_at hv ea
      exact .inl ⟨a, vs, i, v, rfl, dp_int hy, (hides_le _ _).seq hs, ev, k _ H _ pp (Same.refl _) hd⟩
    · obtain ⟨a, vs, rfl, hs, hv⟩ := dp_tuple hx
      obtain ⟨v, ev, hd⟩ := dp_at hv ea
      exact .inr (.inl ⟨a, vs, i, v, rfl, dp_int hy, same_seqT (hides_le _ _) hs, ev, k _ H _ pp (Same.refl _) hd⟩)
theorem ev_allT {n : Nat} {PL : List PyData → Prop} (h : EvN K te ms PL) (hp : ∀ ds, PL ds → ds = (List.replicate n true).map PyData.bool) : Ev K (tCB (rAll K) (tCons te tNil)) ms (· = .bool true) := fun C B p0 ps σ H E Q k => by
  refine (EvN.ev (P := (· = .list ((List.replicate n true).map PyData.bool))) h fun ds p => by rw [hp ds p]).run E fun v H1 d p E1 s1 hd => ?_
  subst p
  obtain ⟨a, vs, rfl, hs, hv⟩ := dp_list hd
  have ev := dp_bools hv
  subst ev
  refine ⟨a, _, rfl, (hides_le _ _).seq hs, ?_⟩
  have e : ((List.replicate n true).all id) = true := by rw [List.all_eq_true]; intro x hx; rw [List.eq_of_mem_replicate hx]; rfl
  rw [e]
  exact k _ H1 _ rfl E1 (.bl _)
theorem e_neB {a b : Bool} (ha : Ev K ta ms (· = .bool a)) (hb : Ev K tb ms (· = .bool b)) : Ev K (tOp rNe ta tb) ms (· = .bool (!decide (a = b))) := ev_neB ha hb fun d1 d2 e1 e2 => ⟨a, b, e1, e2, rfl⟩
theorem e_eqS {a b : Str} (ha : Ev K ta ms (· = .str a)) (hb : Ev K tb ms (· = .str b)) : Ev K (tOp rEq ta tb) ms (· = .bool (decide (a = b))) :=
  ev_op ha hb fun ps H x y d1 d2 Q _ e1 e2 hx hy k => by
    subst e1 e2
    rw [dp_str hx, dp_str hy]
    have e : decide (V.str a = V.str b) = decide (a = b) := by
      rw [Bool.eq_iff_iff, decide_eq_true_iff, decide_eq_true_iff]
      exact ⟨fun h => by injection h, fun h => by rw [h]⟩
    refine ⟨rfl, ?_⟩
    rw [e]
    exact k _ H _ rfl (Same.refl _) (.bl _)
theorem t_testB {b : Bool} {t : TE} (h : Ev K t ms (· = .bool b)) : EvT K (tB t) ms (· = b) := et_B h fun d e => ⟨b, e, rfl⟩
theorem e_eqB {a b : Bool} (ha : Ev K ta ms (· = .bool a)) (hb : Ev K tb ms (· = .bool b)) : Ev K (tOp rEq ta tb) ms (· = .bool (decide (a = b))) := ev_eqB ha hb fun d1 d2 e1 e2 => ⟨a, b, e1, e2, rfl⟩
end
section
variable {P : Program} {w : World} {K : PySem.W.Frag} {mg : Str → Option Value} {base : Heap}
abbrev s_l_like : Stmt := topS 69
theorem sc_l_like : FnScope ["_law_found", "_law_due", "_law_k"] ["_law_found", "_law_due"] (defScope s_l_like) := ⟨rfl, rfl, rfl, by decide +kernel, rfl, by decide +kernel, by decide +kernel⟩
theorem ok_like0 (T : IsDef K mg "_law_like" s_l_like) : OkD P w K mg base "_law_like" 33 ["_law_found", "_law_due"] [] (spLike K 0) := by
  obtain ⟨m, fd, F⟩ := T
  refine ⟨fd, [], ?_, F.bindsN (fun _ _ _ _ _ _ us hl => match us, hl with | [_, _], _ => rfl), .nil, m, F.kp⟩
  refine F.ok (k := 32) sc_l_like (fun vs H Q E h => ?_) (fun cdv A outer s H vs Q E hr h => ?_)
  · obtain ⟨ps, ds, _, _, ⟨d, _, z⟩, _⟩ := h
    exact z.elim
  · obtain ⟨ps, ds, _, _, ⟨d, _, z⟩, _⟩ := h
    exact z.elim
theorem ok_like1 {n : Nat} (T : IsDef K mg "_law_like" s_l_like) (ml : mg "len" = none) (mr : mg "range" = none) (mi : mg "isinstance" = none) (ma : mg "all" = none) (m1 : mg "list" = none) (m2 : mg "tuple" = none) (m3 : mg "bool" = none) (m4 : mg "int" = none) (m5 : mg "str" = none)
    (hl : OkD P w K mg base "_law_like" (33 + n) ["_law_found", "_law_due"] [] (spLike K n)) : OkD P w K mg base "_law_like" (33 + n + 1) ["_law_found", "_law_due"] [] (spLike K (n + 1)) := by
  have bi : bootBuiltins "isinstance" = some (.builtin "isinstance") := by decide +kernel
  refine okP T sc_l_like (fun _ _ _ _ _ _ us hl => match us, hl with | [_, _], _ => rfl) (fun ds ⟨a, e, _⟩ => by rw [e]; rfl) fun cdv A outer s H E hr => ⟨_,
    pss_cons (ps_if (pt_val (pe_callB call_isiT (by rfl) mi bi (pa_cons (pv 1) (pa_cons (pe_tup (pa_cons (pe_bltn (by rfl) m1 (u := .type "list") (v := .ty "list") (by decide +kernel) rfl) (pa_cons (pe_bltn (by rfl) m2 (u := .type "tuple") (v := .ty "tuple") (by decide +kernel) rfl) pa_nil))) pa_nil))))
      (pss_cons (ps_if (PW.pt (pw_or (pt_cmpR op_ne (pe_callB call_isi (by rfl) mi bi (pa_cons (pv 0) (pa_cons (pe_bltn (by rfl) m1 (u := .type "list") (v := .ty "list") (by decide +kernel) rfl) pa_nil))) (pe_callB call_isi (by rfl) mi bi (pa_cons (pv 1) (pa_cons (pe_bltn (by rfl) m1 (u := .type "list") (v := .ty "list") (by decide +kernel) rfl) pa_nil))) (nomark _))
          (pw_or1 (pt_cmpR op_ne (pe_callB call_isi (by rfl) mi bi (pa_cons (pv 0) (pa_cons (pe_bltn (by rfl) m2 (u := .type "tuple") (v := .ty "tuple") (by decide +kernel) rfl) pa_nil))) (pe_callB call_isi (by rfl) mi bi (pa_cons (pv 1) (pa_cons (pe_bltn (by rfl) m2 (u := .type "tuple") (v := .ty "tuple") (by decide +kernel) rfl) pa_nil))) (nomark _)))))
        (pss_one (ps_ret pe_bl)) pss_nil)
      (pss_one (ps_ret (pe_and (pe_cmpR op_eq (pe_callB call_len_seq (by rfl) ml PySem.boot_len (pa_cons (pv 0) pa_nil)) (pe_callB call_len_seq (by rfl) ml PySem.boot_len (pa_cons (pv 1) pa_nil)) (nomark _))
        (pe_one (pe_callB (cr_all rfl) (by rfl) ma (by decide +kernel) (pa_cons (pe_lc (te := tCall (spLike K n) [] E0 (tCons (tOp (rIx K) (tVar 0) (tVar 2)) (tCons (tOp (rIx K) (tVar 1) (tVar 2)) tNil))) (own := [("_law_k", 2)]) (g := gName 2) (tt := tYes) rfl sc_l_like.nd
          (pi_range1 (by rfl) mr (pa_cons (pe_callB call_len_seq (by rfl) ml PySem.boot_len (pa_cons (pv 1) pa_nil)) pa_nil)) (blkOk_by (N := ["_law_found", "_law_due", "_law_k"]) (sc := defScope s_l_like) (by decide +kernel)) (fun _ _ _ _ _ => pg_name (i := 2) sc_l_like.nd rfl (.inl rfl)) (fun _ _ _ _ _ => pts_nil)
          (fun _ _ _ _ _ => pe_fn hl hr (pa_cons (pe_ix (r := rIx K) ix_seq (pv 0) (pv 2) (fun _ _ => rfl)) (pa_cons (pe_ix (r := rIx K) ix_seq (pv 1) (pv 2) (fun _ _ => rfl)) pa_nil)))) pa_nil))))))) pss_nil)
    (pss_cons (ps_if (PW.pt (pw_or (pt_cmpR op_ne (pe_callB call_isi (by rfl) mi bi (pa_cons (pv 0) (pa_cons (pe_bltn (by rfl) m3 (u := .type "bool") (v := .ty "bool") (by decide +kernel) rfl) pa_nil))) (pe_callB call_isi (by rfl) mi bi (pa_cons (pv 1) (pa_cons (pe_bltn (by rfl) m3 (u := .type "bool") (v := .ty "bool") (by decide +kernel) rfl) pa_nil))) (nomark _))
          (pw_or1 (pt_cmpR op_ne (pe_callB call_isi (by rfl) mi bi (pa_cons (pv 0) (pa_cons (pe_bltn (by rfl) m4 (u := .type "int") (v := .ty "int") (by decide +kernel) rfl) pa_nil))) (pe_callB call_isi (by rfl) mi bi (pa_cons (pv 1) (pa_cons (pe_bltn (by rfl) m4 (u := .type "int") (v := .ty "int") (by decide +kernel) rfl) pa_nil))) (nomark _)))))
        (pss_one (ps_ret pe_bl)) pss_nil)
    (pss_one (ps_ret (pe_and (pe_cmpR op_eq (pe_callB call_isi (by rfl) mi bi (pa_cons (pv 0) (pa_cons (pe_bltn (by rfl) m5 (u := .type "str") (v := .ty "str") (by decide +kernel) rfl) pa_nil))) (pe_callB call_isi (by rfl) mi bi (pa_cons (pv 1) (pa_cons (pe_bltn (by rfl) m5 (u := .type "str") (v := .ty "str") (by decide +kernel) rfl) pa_nil))) (nomark _))
      (pe_one (pe_cmpR op_eq (pv 0) (pv 1) (nomark _))))))), ?_⟩
  rintro ds ⟨d, rfl, hd⟩
  have hms : startM ["_law_found", "_law_due", "_law_k"] [d, d] = [.d d, .d d, .no] := rfl
  rw [hms]
  cases d with
  | none => exact hd.elim
  | bool b => exact hd.elim
  | dict x => exact hd.elim
  | int x =>
    refine go_seq (N1 := fun ms => ms = [.d (.int x), .d (.int x), .no]) (go_if (t_testB (ev_isiLT (i := 1) (b := false) rfl rfl)) (fun z => by cases z) fun _ => go_next rfl) ?_
    rintro ms rfl
    refine go_seq (N1 := fun ms => ms = [.d (.int x), .d (.int x), .no]) (go_if (t_or (t_test (e_neB (a := false) (b := false) (ev_isi (i := 0) rfl rfl) (ev_isi (i := 1) rfl rfl))) (t_test (e_neB (a := true) (b := true) (ev_isi (i := 0) rfl rfl) (ev_isi (i := 1) rfl rfl)))) (fun z => by simp at z) fun _ => go_next rfl) ?_
    rintro ms rfl
    exact go_ret (P := (· = .bool true)) (ev_andV (PA := (· = true)) (PB := fun _ => True) (PC := fun _ => True) (e_eqB (a := false) (b := false) (ev_isi (i := 0) rfl rfl) (ev_isi (i := 1) rfl rfl)) (fun d e => ⟨_, e, by simp⟩) (fun _ => (e_eqI (ev_var (i := 0) rfl) (ev_var (i := 1) rfl)).weak fun d e => by rw [e]; simp) fun z => by cases z) fun d e => e
  | str x =>
    refine go_seq (N1 := fun ms => ms = [.d (.str x), .d (.str x), .no]) (go_if (t_testB (ev_isiLT (i := 1) (b := false) rfl rfl)) (fun z => by cases z) fun _ => go_next rfl) ?_
    rintro ms rfl
    refine go_seq (N1 := fun ms => ms = [.d (.str x), .d (.str x), .no]) (go_if (t_or (t_test (e_neB (a := false) (b := false) (ev_isi (i := 0) rfl rfl) (ev_isi (i := 1) rfl rfl))) (t_test (e_neB (a := false) (b := false) (ev_isi (i := 0) rfl rfl) (ev_isi (i := 1) rfl rfl)))) (fun z => by simp at z) fun _ => go_next rfl) ?_
    rintro ms rfl
    exact go_ret (P := (· = .bool true)) (ev_andV (PA := (· = true)) (PB := fun _ => True) (PC := fun _ => True) (e_eqB (a := true) (b := true) (ev_isi (i := 0) rfl rfl) (ev_isi (i := 1) rfl rfl)) (fun d e => ⟨_, e, by simp⟩) (fun _ => (e_eqS (ev_var (i := 0) rfl) (ev_var (i := 1) rfl)).weak fun d e => by rw [e]; simp) fun z => by cases z) fun d e => e
  | list es =>
    obtain ⟨hlen, hall⟩ := hd
    refine go_seq (N1 := fun _ => False) (go_if (t_testB (ev_isiLT (i := 1) (b := true) rfl rfl)) (fun _ => ?_) fun z => by cases z) fun m z => z.elim
    refine go_seq (N1 := fun ms => ms = [.d (.list es), .d (.list es), .no]) (go_if (t_or (t_test (e_neB (a := true) (b := true) (ev_isi (i := 0) rfl rfl) (ev_isi (i := 1) rfl rfl))) (t_test (e_neB (a := false) (b := false) (ev_isi (i := 0) rfl rfl) (ev_isi (i := 1) rfl rfl)))) (fun z => by simp at z) fun _ => go_next rfl) ?_
    rintro ms rfl
    have hln : ∀ {i : Nat} {ms : List Slot}, ms[i]? = some (.d (.list es)) → Ev K (tLen K (tCons (tVar i) tNil)) ms (· = .int (es.length : Int)) := fun e => ev_len (ea_1 (ev_var e)) fun ds e => ⟨es, .inl e, rfl⟩
    refine go_ret (P := (· = .bool true)) (ev_andV (PA := (· = true)) (PB := fun _ => True) (PC := fun _ => True) (e_eqI (a := (es.length : Int)) (b := (es.length : Int)) (hln (i := 0) rfl) (hln (i := 1) rfl)) (fun d e => ⟨_, e, by simp⟩) (fun _ => ?_) fun z => by cases z) fun d e => e
    refine ev_allT (n := es.length) (ev_lcR (n := (es.length : Int)) (j := 2) (x := fun k d => d = .bool true) (ea_1 (hln (i := 1) rfl)) (by omega) (by omega) rfl (fun k hk => ?_) (P := fun ds => ds.length = es.length ∧ ∀ (k : Nat) d, ds[k]? = some d → d = .bool true) fun ds h1 h2 => ⟨by omega, h2⟩) fun ds ⟨h1, h2⟩ => ?_
    · have hk : k < es.length := by omega
      refine ev_call (P := (· = .bool true)) (ea_2 (ev_ixLT (P := (· = es[k])) (ev_var (i := 0) rfl) (ev_var (i := 2) rfl) fun d1 d2 e1 e2 => ⟨es, _, _, .inl e1, e2, atI_nat (List.getElem?_eq_getElem hk), rfl⟩) (ev_ixLT (P := (· = es[k])) (ev_var (i := 1) rfl) (ev_var (i := 2) rfl) fun d1 d2 e1 e2 => ⟨es, _, _, .inl e1, e2, atI_nat (List.getElem?_eq_getElem hk), rfl⟩)) fun ds e => ⟨⟨es[k], e, hall _ (List.getElem_mem hk)⟩, fun r hr => hr⟩
    · apply List.ext_getElem?
      intro k
      by_cases hk : k < ds.length
      · rw [List.getElem?_eq_getElem hk, h2 k _ (List.getElem?_eq_getElem hk), List.getElem?_map, List.getElem?_replicate, if_pos (by omega)]
        rfl
      · rw [List.getElem?_eq_none (by omega), List.getElem?_eq_none (by simp; omega)]
  | tuple es =>
    obtain ⟨hlen, hall⟩ := hd
    refine go_seq (N1 := fun _ => False) (go_if (t_testB (ev_isiLT (i := 1) (b := true) rfl rfl)) (fun _ => ?_) fun z => by cases z) fun m z => z.elim
    refine go_seq (N1 := fun ms => ms = [.d (.tuple es), .d (.tuple es), .no]) (go_if (t_or (t_test (e_neB (a := false) (b := false) (ev_isi (i := 0) rfl rfl) (ev_isi (i := 1) rfl rfl))) (t_test (e_neB (a := true) (b := true) (ev_isi (i := 0) rfl rfl) (ev_isi (i := 1) rfl rfl)))) (fun z => by simp at z) fun _ => go_next rfl) ?_
    rintro ms rfl
    have hln : ∀ {i : Nat} {ms : List Slot}, ms[i]? = some (.d (.tuple es)) → Ev K (tLen K (tCons (tVar i) tNil)) ms (· = .int (es.length : Int)) := fun e => ev_len (ea_1 (ev_var e)) fun ds e => ⟨es, .inr e, rfl⟩
    refine go_ret (P := (· = .bool true)) (ev_andV (PA := (· = true)) (PB := fun _ => True) (PC := fun _ => True) (e_eqI (a := (es.length : Int)) (b := (es.length : Int)) (hln (i := 0) rfl) (hln (i := 1) rfl)) (fun d e => ⟨_, e, by simp⟩) (fun _ => ?_) fun z => by cases z) fun d e => e
    refine ev_allT (n := es.length) (ev_lcR (n := (es.length : Int)) (j := 2) (x := fun k d => d = .bool true) (ea_1 (hln (i := 1) rfl)) (by omega) (by omega) rfl (fun k hk => ?_) (P := fun ds => ds.length = es.length ∧ ∀ (k : Nat) d, ds[k]? = some d → d = .bool true) fun ds h1 h2 => ⟨by omega, h2⟩) fun ds ⟨h1, h2⟩ => ?_
    · have hk : k < es.length := by omega
      refine ev_call (P := (· = .bool true)) (ea_2 (ev_ixLT (P := (· = es[k])) (ev_var (i := 0) rfl) (ev_var (i := 2) rfl) fun d1 d2 e1 e2 => ⟨es, _, _, .inr e1, e2, atI_nat (List.getElem?_eq_getElem hk), rfl⟩) (ev_ixLT (P := (· = es[k])) (ev_var (i := 1) rfl) (ev_var (i := 2) rfl) fun d1 d2 e1 e2 => ⟨es, _, _, .inr e1, e2, atI_nat (List.getElem?_eq_getElem hk), rfl⟩)) fun ds e => ⟨⟨es[k], e, hall _ (List.getElem_mem hk)⟩, fun r hr => hr⟩
    · apply List.ext_getElem?
      intro k
      by_cases hk : k < ds.length
      · rw [List.getElem?_eq_getElem hk, h2 k _ (List.getElem?_eq_getElem hk), List.getElem?_map, List.getElem?_replicate, if_pos (by omega)]
        rfl
      · rw [List.getElem?_eq_none (by omega), List.getElem?_eq_none (by simp; omega)]
end
end Ct
namespace PySem.W
open PySem PySem.Spec PySem.Calls PyProof.Rows
section
variable {M : Model} {K : Frag}
theorem ct_exm5 {c1 c2 c3 c4 c5 cls : Value} {tp e : Addr} {h : Heap} (X : K.In h) (LT : Looks M h (typeOf (.ref e)) cls) (hp : h.get? tp = some { cls := .type "tuple", data := .seq [c1, c2, c3, c4, c5].toArray })
    (x1 : exmOne K cls c1 = some false) (x2 : exmOne K cls c2 = some false) (x3 : exmOne K cls c3 = some false) (x4 : exmOne K cls c4 = some true) (x5 : exmOne K cls c5 = some false) : Looks M h (excMatches (.ref e) (.ref tp)) true := by
  intro A Q E s k₀ q
  obtain ⟨hh, g, d, tk, os⟩ := s
  have k : ∀ b o, h.get? b = some o → hh.get? b = some o := k₀
  have LT0 : Looks M h (isInstance (.ref tp) (.type "tuple")) true := ((Looks.ld hp).andThen .now).andThen (Looks.of_pure isSubtype_tuple_tuple)
  obtain ⟨e1, S1⟩ := exm_cls (M := M) X x1
  have e1 := e1.keeps k
  have S1 := S1.keeps k
  obtain ⟨e2, S2⟩ := exm_cls (M := M) X x2
  have e2 := e2.keeps k
  have S2 := S2.keeps k
  obtain ⟨e3, S3⟩ := exm_cls (M := M) X x3
  have e3 := e3.keeps k
  have S3 := S3.keeps k
  obtain ⟨e4, S4⟩ := exm_cls (M := M) X x4
  have e4 := e4.keeps k
  have S4 := S4.keeps k
  obtain ⟨e5, S5⟩ := exm_cls (M := M) X x5
  have e5 := e5.keeps k
  have S5 := S5.keeps k
  have LT := LT.keeps k
  have LT0 := LT0.keeps k
  have hp' := k _ _ hp
  unfold excMatches
  refine wpAny_bind (LT0.at ?_)
  dsimp only
  rw [if_pos rfl]
  first
    | refine wpAny_bind (wpAny_seqItems hp' rfl ?_)
    | refine wpAny_bind (wpAny_bind (wpAny_seqItems hp' rfl (wpAny_pure ?_)))
  dsimp only [Option.getD_some, Option.getD]
  ((repeat (first | simp only [List.forIn_cons, List.forIn_nil, Bool.not_true, Bool.false_eq_true, if_false, if_true] | lk)); exact q)
theorem ct_exm6 {c1 c2 c3 c4 c5 c6 cls : Value} {tp e : Addr} {h : Heap} (X : K.In h) (LT : Looks M h (typeOf (.ref e)) cls) (hp : h.get? tp = some { cls := .type "tuple", data := .seq [c1, c2, c3, c4, c5, c6].toArray })
    (x1 : exmOne K cls c1 = some false) (x2 : exmOne K cls c2 = some false) (x3 : exmOne K cls c3 = some false) (x4 : exmOne K cls c4 = some false) (x5 : exmOne K cls c5 = some false) (x6 : exmOne K cls c6 = some false) : Looks M h (excMatches (.ref e) (.ref tp)) false := by
  intro A Q E s k₀ q
  obtain ⟨hh, g, d, tk, os⟩ := s
  have k : ∀ b o, h.get? b = some o → hh.get? b = some o := k₀
  have LT0 : Looks M h (isInstance (.ref tp) (.type "tuple")) true := ((Looks.ld hp).andThen .now).andThen (Looks.of_pure isSubtype_tuple_tuple)
  obtain ⟨e1, S1⟩ := exm_cls (M := M) X x1
  have e1 := e1.keeps k
  have S1 := S1.keeps k
  obtain ⟨e2, S2⟩ := exm_cls (M := M) X x2
  have e2 := e2.keeps k
  have S2 := S2.keeps k
  obtain ⟨e3, S3⟩ := exm_cls (M := M) X x3
  have e3 := e3.keeps k
  have S3 := S3.keeps k
  obtain ⟨e4, S4⟩ := exm_cls (M := M) X x4
  have e4 := e4.keeps k
  have S4 := S4.keeps k
  obtain ⟨e5, S5⟩ := exm_cls (M := M) X x5
  have e5 := e5.keeps k
  have S5 := S5.keeps k
  obtain ⟨e6, S6⟩ := exm_cls (M := M) X x6
  have e6 := e6.keeps k
  have S6 := S6.keeps k
  have LT := LT.keeps k
  have LT0 := LT0.keeps k
  have hp' := k _ _ hp
  unfold excMatches
  refine wpAny_bind (LT0.at ?_)
  dsimp only
  rw [if_pos rfl]
  first
    | refine wpAny_bind (wpAny_seqItems hp' rfl ?_)
    | refine wpAny_bind (wpAny_bind (wpAny_seqItems hp' rfl (wpAny_pure ?_)))
  dsimp only [Option.getD_some, Option.getD]
  ((repeat (first | simp only [List.forIn_cons, List.forIn_nil, Bool.not_true, Bool.false_eq_true, if_false, if_true] | lk)); exact q)
end
end PySem.W
namespace L2
open PySem PySem.Spec PyProof.Rows PySem.Calls
/-- the wish of a try whose first clause (six classes) passes on what its second (five, the fourth one fits) takes -/
def wTwo (K : PySem.W.Frag) (c1 c2 c3 c4 c5 c6 e1 e2 e3 e4 e5 : Value) (m i : Nat) (ts : Addr → Value → Option Addr → TS) (D : Ends) : WX := fun cls d σ H =>
  (PySem.W.exmOne K cls c1 = some false ∧ PySem.W.exmOne K cls c2 = some false ∧ PySem.W.exmOne K cls c3 = some false ∧ PySem.W.exmOne K cls c4 = some false ∧ PySem.W.exmOne K cls c5 = some false ∧ PySem.W.exmOne K cls c6 = some false) ∧
  (PySem.W.exmOne K cls e1 = some false ∧ PySem.W.exmOne K cls e2 = some false ∧ PySem.W.exmOne K cls e3 = some false ∧ PySem.W.exmOne K cls e4 = some true ∧ PySem.W.exmOne K cls e5 = some false) ∧
  ∀ a, H a = none → σ.length = m → ts a cls d { nx := fun σ' H' => D.nx (σ'.set i none) H', rt := D.rt, bk := fun σ' H' => D.bk (σ'.set i none) H', ct := fun σ' H' => D.ct (σ'.set i none) H' } (σ.set i (some (.ref a))) H
theorem flying_push {base h : Heap} {l : List Env} {e : Addr} {Z : Obj → Prop} (o : Obj) (f : HandSPX.FlyingZ base l e Z h) : HandSPX.FlyingZ base l e Z (h.push o) := by
  obtain ⟨f1, f2, f3, oe, vs, T, oT, ts, he, hz, hd, h1, hnT, hTe, hT, hdT, h3⟩ := f
  exact ⟨fun b ob q => Heap.get?_push_of_some _ (f1 b ob q), f2, f3.of_keeps fun b ob hb _ => ⟨ob, Heap.get?_push_of_some _ hb, rfl⟩, oe, vs, T, oT, ts, Heap.get?_push_of_some _ he, hz, hd, h1, hnT, hTe, Heap.get?_push_of_some _ hT, hdT, h3⟩
theorem upto_push {h : Heap} (o : Obj) : h.UpToSlots (h.push o) := fun b ob hb _ => ⟨ob.slots, Heap.get?_push_of_some _ hb⟩
section
variable {X : Cx} {n x1 x2 x3 x4 x5 x6 y1 y2 y3 y4 y5 : Str} {c1 c2 c3 c4 c5 c6 e1 e2 e3 e4 e5 : Value} {i k1 k2 : Nat} {body su1 suite : List Stmt} {hds : List ExceptHandler} {b₀ : Stmt} {p1 p2 p3 p4 p5 p6 q1 q2 q3 q4 q5 t1 t2 pos pos1 pos2 : Pos} {tb : WX → TS} {ts : Addr → Value → Option Addr → TS}
theorem ps_try_two (hs : X.stack = X.env :: X.outer) (hf : X.env.frame = some X.env.locals) (hN : X.N.Nodup) (hi : X.N[i]? = some n) (hln : X.env.kindOf n = some .local)
    (n1 : Names X x1 c1) (n2 : Names X x2 c2) (n3 : Names X x3 c3) (n4 : Names X x4 c4) (n5 : Names X x5 c5) (n6 : Names X x6 c6) (m1 : Names X y1 e1) (m2 : Names X y2 e2) (m3 : Names X y3 e3) (m4 : Names X y4 e4) (m5 : Names X y5 e5)
    (hb : ∀ (W : WX) (pn : List (Addr × Obj)) (xe : Value → Shared → Prop), Takes (X.tr pn xe) W → PassesOwn (model X.prog X.w) X.A X.env xe → PSs (X.tr pn xe) body (tb W))
    (hsu : ∀ (a : Addr) (oe : Obj) (cls : Value) (d : Option Addr) (pn : List (Addr × Obj)), Zc cls d oe → (∃ vs, oe.data = .fields vs) → PSs (X.suite a ((a, oe) :: pn)) (b₀ :: suite) (ts a cls d)) :
    PS X (.Try body (.ExceptHandler (some (.Tuple [.Name x1 p1, .Name x2 p2, .Name x3 p3, .Name x4 p4, .Name x5 p5, .Name x6 p6] k1 t1)) (some n) su1 pos1 ::
      .ExceptHandler (some (.Tuple [.Name y1 q1, .Name y2 q2, .Name y3 q3, .Name y4 q4, .Name y5 q5] k2 t2)) (some n) (b₀ :: suite) pos2 :: hds) [] [] pos) (fun D σ H => tb (wTwo X.K c1 c2 c3 c4 c5 c6 e1 e2 e3 e4 e5 X.N.length i ts D) D σ H) := by
  refine ⟨fun pins s σ H D I h => ?_⟩
  have ok := I.ok
  have hfr : X.A.frames = some (X.env :: X.outer) := by rw [ok.frames, hs]
  have hloc : Loc X.env.scope n := .inl hln
  refine wpAny_Try_except ?_
  refine wpAny_mono ((hb (wTwo X.K c1 c2 c3 c4 c5 c6 e1 e2 e3 e4 e5 X.N.length i ts D) (X.pn ++ pins) (fun e s₁ => wpAny (model X.prog X.w) X.A (noteFrame e X.env) (fun _ s₂ => wpAny (model X.prog X.w) X.A (setFlight e none) (fun _ s₃ =>
    wpAny (model X.prog X.w) X.A (handleBy e X.env (.ExceptHandler (some (.Tuple [.Name x1 p1, .Name x2 p2, .Name x3 p3, .Name x4 p4, .Name x5 p5, .Name x6 p6] k1 t1)) (some n) su1 pos1 ::
      .ExceptHandler (some (.Tuple [.Name y1 q1, .Name y2 q2, .Name y3 q3, .Name y4 q4, .Name y5 q5] k2 t2)) (some n) (b₀ :: suite) pos2 :: hds)) (SP X pins D) X.xe s₃) X.xe s₂) X.xe s₁) (fun u s' xx => ?_) PassesOwn.looking).run [] s σ H D (I.toTry _) h) (fun f s1 hsp => ?_) (fun e s1 he => he)
  · -- the catch
    obtain ⟨a, B, sI, pins', σ', H', cls, d, rfl, J', nb, up, sky, na, os, ag, ⟨w1, w2, w3, w4, w5, w6⟩, ⟨v1, v2, v3, v4, v5⟩, hyes⟩ := xx
    have J : Inv X pins σ' H' sI := J'.ofTry ok
    have sky' : Sky B (X.env :: X.outer) a (Zc cls d) X.env.locals s'.heap := by rw [← hs]; exact sky
    show wpAny (model X.prog X.w) X.A (noteFrame (.ref a) X.env) _ _ _
    refine Sky.land Zc.steady hfr hf sky' fun h3 fl3 up3 => ?_
    have notFr : ∀ {h : Heap} {o : Obj} {vs : Array Value}, h.FunFrames B (X.env :: X.outer) → h.get? a = some o → o.data = .fields vs → a ∉ frs (X.env :: X.outer) := fun {h o vs} ff e dd hm => by
      obtain ⟨_, o', e', hnf⟩ := ff.mem hm
      rw [e] at e'; cases e'
      exact hnf _ dd
    have test : ∀ {hh : Heap} {oe : Obj} {vs : Array Value}, HandSPX.FlyingZ B (X.env :: X.outer) a (Zc cls d) hh → s'.heap.UpToSlots hh → hh.get? a = some oe → oe.data = .fields vs →
        ∀ {x : Str} {c : Value} {np : Pos}, Names X x c → ∀ {Q : Value → Shared → Prop} {E : Value → Shared → Prop}, Q c { s' with heap := hh } → wpAny (model X.prog X.w) (X.A.mark (some (.ref a))) (eval (.Name x np) X.env) Q E { s' with heap := hh } := fun {hh oe vs} fl upx he hd {x c np} hc {Q E} q => by
      have nfr := notFr fl.2.2.1 he hd
      have nL : a ≠ X.env.locals := fun z => nfr (List.mem_filterMap.mpr ⟨X.env, List.mem_cons_self, by rw [hf, z]⟩)
      have nF : a ∉ X.fs := fun hm => by
        obtain ⟨e, he, q⟩ := List.mem_filterMap.mp hm
        exact nfr (List.mem_filterMap.mpr ⟨e, List.mem_cons_of_mem _ he, q⟩)
      have JJ : Inv X pins σ' H' { s' with heap := hh } := J.landed nb fl.1 (up.trans upx) os ag
      have S := JJ.suite he hd na nL nF
      obtain ⟨hg, hdbg, hm | ⟨hm, hv, hnn⟩⟩ := hc
      · exact ld_glob (X := X.suite a ((a, oe) :: (X.pn ++ pins))) S hg hm q hdbg
      · exact ld_blt (X := X.suite a ((a, oe) :: (X.pn ++ pins))) S hg hm hv q hnn hdbg
    obtain ⟨oe3, vs3, he3, hz3, hd3⟩ := fl3.there
    have J3 : Inv X pins σ' H' { s' with heap := h3 } := J.landed nb fl3.1 (up.trans up3) os ag
    refine wpAny_handleBy_cons (codeAny_handlers_test ?_) (by intro q; cases q)
    refine wpAny_Tuple ?_
    refine wpAny_items_cons (test fl3 up3 he3 hd3 n1 ?_)
    refine wpAny_items_cons (test fl3 up3 he3 hd3 n2 ?_)
    refine wpAny_items_cons (test fl3 up3 he3 hd3 n3 ?_)
    refine wpAny_items_cons (test fl3 up3 he3 hd3 n4 ?_)
    refine wpAny_items_cons (test fl3 up3 he3 hd3 n5 ?_)
    refine wpAny_items_cons (test fl3 up3 he3 hd3 n6 ?_)
    refine wpAny_items_nil ⟨by size_fits, ?_⟩
    have kp : ∀ q o, h3.get? q = some o → (h3.push { cls := .type "tuple", data := .seq [c1, c2, c3, c4, c5, c6].toArray }).get? q = some o := fun _ _ z => Heap.get?_push_of_some _ z
    have LT : PySem.W.Looks (model X.prog X.w) (h3.push { cls := .type "tuple", data := .seq [c1, c2, c3, c4, c5, c6].toArray }) (typeOf (.ref a)) cls := fun A Q E s k q => wpAny_typeOf_ref (k _ _ (kp _ _ he3)) (by rw [hz3.1]; exact q)
    refine (PySem.W.ct_exm6 (M := model X.prog X.w) (J3.kIn.keeps kp) LT (Heap.get?_push_size h3 rfl) w1 w2 w3 w4 w5 w6).here ?_
    have fl4 := flying_push { cls := .type "tuple", data := .seq [c1, c2, c3, c4, c5, c6].toArray } fl3
    have up4 := up3.trans (upto_push { cls := .type "tuple", data := .seq [c1, c2, c3, c4, c5, c6].toArray })
    generalize hh4 : h3.push { cls := .type "tuple", data := .seq [c1, c2, c3, c4, c5, c6].toArray } = h4 at fl4 up4 ⊢
    obtain ⟨oe4, vs4, he4, hz4, hd4⟩ := fl4.there
    have J4 : Inv X pins σ' H' { s' with heap := h4 } := J.landed nb fl4.1 (up.trans up4) os ag
    show wpAny _ X.A (handleBy (.ref a) X.env (.ExceptHandler (some (.Tuple [.Name y1 q1, .Name y2 q2, .Name y3 q3, .Name y4 q4, .Name y5 q5] k2 t2)) (some n) (b₀ :: suite) pos2 :: hds)) _ _ _
    refine wpAny_handleBy_cons (codeAny_handlers_test ?_) (by intro q; cases q)
    refine wpAny_Tuple ?_
    refine wpAny_items_cons (test fl4 up4 he4 hd4 m1 ?_)
    refine wpAny_items_cons (test fl4 up4 he4 hd4 m2 ?_)
    refine wpAny_items_cons (test fl4 up4 he4 hd4 m3 ?_)
    refine wpAny_items_cons (test fl4 up4 he4 hd4 m4 ?_)
    refine wpAny_items_cons (test fl4 up4 he4 hd4 m5 ?_)
    refine wpAny_items_nil ⟨by size_fits, ?_⟩
    have kp5 : ∀ q o, h4.get? q = some o → (h4.push { cls := .type "tuple", data := .seq [e1, e2, e3, e4, e5].toArray }).get? q = some o := fun _ _ z => Heap.get?_push_of_some _ z
    have LT5 : PySem.W.Looks (model X.prog X.w) (h4.push { cls := .type "tuple", data := .seq [e1, e2, e3, e4, e5].toArray }) (typeOf (.ref a)) cls := fun A Q E s k q => wpAny_typeOf_ref (k _ _ (kp5 _ _ he4)) (by rw [hz4.1]; exact q)
    refine (PySem.W.ct_exm5 (M := model X.prog X.w) (J4.kIn.keeps kp5) LT5 (Heap.get?_push_size h4 rfl) v1 v2 v3 v4 v5).here ?_
    have fl5 := flying_push { cls := .type "tuple", data := .seq [e1, e2, e3, e4, e5].toArray } fl4
    have up5 := up4.trans (upto_push { cls := .type "tuple", data := .seq [e1, e2, e3, e4, e5].toArray })
    generalize hh5 : h4.push { cls := .type "tuple", data := .seq [e1, e2, e3, e4, e5].toArray } = h5 at fl5 up5 ⊢
    refine codeAny_handlers_suite_as ?_
    refine HandSPX.lands_againZ fl5 fun h6 fl6 up6 => ?_
    have J6 : Inv X pins σ' H' { s' with heap := h6 } := J.landed nb fl6.1 ((up.trans up5).trans up6) os ag
    obtain ⟨oe6, vs6, he6, hz6, hd6⟩ := fl6.there
    have nfr := notFr fl6.2.2.1 he6 hd6
    have nL : a ≠ X.env.locals := fun z => nfr (List.mem_filterMap.mpr ⟨X.env, List.mem_cons_self, by rw [hf, z]⟩)
    have nF : a ∉ X.fs := fun hm => by
      obtain ⟨e, he, q⟩ := List.mem_filterMap.mp hm
      exact nfr (List.mem_filterMap.mpr ⟨e, List.mem_cons_of_mem _ he, q⟩)
    have S6 := J6.suite he6 hd6 na nL nF
    refine store_ok (X := X.suite a ((a, oe6) :: (X.pn ++ pins))) (v := .ref a) S6 hN hi hloc rfl (fun s5 S5 => ?_) (.inr hln)
    refine wpAny_mono ((hsu a oe6 cls d (X.pn ++ pins) hz6 ⟨_, hd6⟩).run [] s5 _ H' _ S5 (hyes a na J.len)) (fun f s6 hsp => ?_) (fun _ _ z => False.elim z)
    have end_ : ∀ {σ6 : St} {H6 : Hp} {Q : Shared → Prop}, Inv (X.suite a ((a, oe6) :: (X.pn ++ pins))) [] σ6 H6 s6 → (∀ s7, Inv X pins (σ6.set i none) H6 s7 → Q s7) →
        wpAny (model X.prog X.w) X.A (do bindName X.env n .none; unbindBehindTheSuite X.env n pos2) (fun _ s7 => Q s7) X.xe s6 := fun {σ6 H6 Q} S6 hq => gone_ok (S6.unsuite ok) hN hi hln hq
    cases f with
    | next =>
      obtain ⟨σ6, H6, S6, q6⟩ := hsp
      exact end_ S6 fun s7 J7 => ⟨_, _, J7, q6⟩
    | brk =>
      obtain ⟨σ6, H6, S6, q6⟩ := hsp
      exact end_ S6 fun s7 J7 => ⟨_, _, J7, q6⟩
    | cont =>
      obtain ⟨σ6, H6, S6, q6⟩ := hsp
      exact end_ S6 fun s7 J7 => ⟨_, _, J7, q6⟩
    | ret u =>
      obtain ⟨v6, σ6, H6, S6, r6, q6⟩ := hsp
      exact end_ S6 fun s7 J7 => ⟨_, _, _, J7, r6, q6⟩
  · cases f with
    | next =>
      obtain ⟨σ', H', J', q⟩ := hsp
      exact wpAny_execs_nil ⟨σ', H', J'.ofTry ok, q⟩
    | brk =>
      obtain ⟨σ', H', J', q⟩ := hsp
      exact ⟨σ', H', J'.ofTry ok, q⟩
    | cont =>
      obtain ⟨σ', H', J', q⟩ := hsp
      exact ⟨σ', H', J'.ofTry ok, q⟩
    | ret u =>
      obtain ⟨v, σ', H', J', r, q⟩ := hsp
      exact ⟨v, σ', H', J'.ofTry ok, r, q⟩
end
end L2
namespace Ct
open PySem PySem.Spec PyProof.Rows L2 He LamX

abbrev s_l_tried : Stmt := topS 68
theorem sc_l_tried : FnScope ["_law_act", "e"] ["_law_act"] (defScope s_l_tried) := ⟨rfl, rfl, rfl, by decide +kernel, rfl, by decide +kernel, by decide +kernel⟩
/-- the classes that the clauses name, and what the exception is to them -/
structure TrC (K : PySem.W.Frag) (mg : Str → Option Value) : Prop where
  c1 : ∃ v, mg "BadName" = some v ∧ PySem.W.exmOne K (.ref (ga K "Unbuilt")) v = some false
  c2 : ∃ v, mg "Twice" = some v ∧ PySem.W.exmOne K (.ref (ga K "Unbuilt")) v = some false
  c3 : ∃ v, mg "Taken" = some v ∧ PySem.W.exmOne K (.ref (ga K "Unbuilt")) v = some false
  c4 : ∃ v, mg "InUse" = some v ∧ PySem.W.exmOne K (.ref (ga K "Unbuilt")) v = some false
  c5 : ∃ v, mg "NoRow" = some v ∧ PySem.W.exmOne K (.ref (ga K "Unbuilt")) v = some false
  c6 : ∃ v, mg "NoWatch" = some v ∧ PySem.W.exmOne K (.ref (ga K "Unbuilt")) v = some false
  e1 : ∃ v, mg "Nought" = some v ∧ PySem.W.exmOne K (.ref (ga K "Unbuilt")) v = some false
  e2 : ∃ v, mg "BadCorner" = some v ∧ PySem.W.exmOne K (.ref (ga K "Unbuilt")) v = some false
  e3 : ∃ v, mg "Flat" = some v ∧ PySem.W.exmOne K (.ref (ga K "Unbuilt")) v = some false
  e4 : ∃ v, mg "Unbuilt" = some v ∧ PySem.W.exmOne K (.ref (ga K "Unbuilt")) v = some true
  e5 : ∃ v, mg "BadText" = some v ∧ PySem.W.exmOne K (.ref (ga K "Unbuilt")) v = some false
  x : XfC K (ga K "Unbuilt")
/-- tried: the act's value, or the exception's name and place -/
def TTtried (K : PySem.W.Frag) : (XK → Hp → VK → Prop) → Hp → VK → Prop := fun tl H Q =>
  tl (fun cls d H' => ∃ k : Int, ExAt (ga K "Unbuilt") k cls d H' ∧ ∀ p, H' p = none → Q (.ref p) (upd H' p (.tup [.str "Unbuilt", .int k]))) H (fun v H1 => [V.str "told", v].length ≤ sizeLine ∧ ∀ p, H1 p = none → Q (.ref p) (upd H1 p (.tup [.str "told", v])))
theorem tried_gives {X : Cx} {g : Addr} {cdg : Value} {q : Str} {fI : Addr} (C : TrC X.K X.mg) (U : UbC X.K X.mg fI) : GivesTo X ["_law_act", "e"] "_law_tried" (defScope s_l_tried) g cdg (defBody s_l_tried) "_law_act" q (TTtried X.K) := by
  intro f c' s H Q tl act hc h
  obtain ⟨v1, g1, w1⟩ := C.c1
  obtain ⟨v2, g2, w2⟩ := C.c2
  obtain ⟨v3, g3, w3⟩ := C.c3
  obtain ⟨v4, g4, w4⟩ := C.c4
  obtain ⟨v5, g5, w5⟩ := C.c5
  obtain ⟨v6, g6, w6⟩ := C.c6
  obtain ⟨u1, h1, z1⟩ := C.e1
  obtain ⟨u2, h2, z2⟩ := C.e2
  obtain ⟨u3, h3, z3⟩ := C.e3
  obtain ⟨u4, h4, z4⟩ := C.e4
  obtain ⟨u5, h5, z5⟩ := C.e5
  have nm : ∀ {x : Str} {v : Value}, X.mg x = some v → (defScope s_l_tried).names.lookup x = some .globalImplicit → (x == ("__debug__" : Str)) = false → Names (cxOf C8.CX0 X.prog X.w X.K X.mg X.base ["_law_act", "e"] "_law_tried" (defScope s_l_tried) g cdg X.A X.stack s H C8.E0).nox x v := fun m l d => ⟨l, d, .inl m⟩
  refine ⟨_, pss_one (ps_try_two (X := (cxOf C8.CX0 X.prog X.w X.K X.mg X.base ["_law_act", "e"] "_law_tried" (defScope s_l_tried) g cdg X.A X.stack s H C8.E0).nox) (i := 1) (n := "e")
      (tb := fun W D σ H => ∃ Ech : XK, (∀ cls d σ' H', Ech cls d H' → W cls d σ' H') ∧ σ[0]? = some (some (.ref f)) ∧ H c' = some (CodeO c' q) ∧ tl Ech H (fun v H1 => [V.str "told", v].length ≤ sizeLine ∧ ∀ p, H1 p = none → D.rt (.ref p) (upd H1 p (.tup [.str "told", v]))))
      rfl rfl (show List.Nodup [("_law_act" : Str), "e"] by decide +kernel) rfl rfl (nm g1 rfl rfl) (nm g2 rfl rfl) (nm g3 rfl rfl) (nm g4 rfl rfl) (nm g5 rfl rfl) (nm g6 rfl rfl) (nm h1 rfl rfl) (nm h2 rfl rfl) (nm h3 rfl rfl) (nm h4 rfl rfl) (nm h5 rfl rfl) (fun W pn xe tk _ => ?_)
      (fun a oe cls d pn hz hf => pss_one (ps_ret (pe_tup (pa_cons (pe_xf (C := ga X.K "Unbuilt") C.x U.c hz hf (pv 1)) (pa_cons (pe_xf (C := ga X.K "Unbuilt") C.x U.a hz hf (pv 1)) pa_nil)))))), ?_⟩
  · refine ⟨fun pins s' σ H' D I h' => ?_⟩
    obtain ⟨Ech, hW, j1, j2, j3⟩ := h'
    exact (pss_one (ps_ret (pe_tup (pa_cons (pe_str (x := "told")) (pa_cons (act W pn xe Ech _ _ tk hW) pa_nil))))).run pins s' σ H' D I ⟨j1, j2, j3⟩
  · refine ⟨fun cls d H' => ∃ k : Int, ExAt (ga X.K "Unbuilt") k cls d H' ∧ ∀ p, H' p = none → Q (.ref p) (upd H' p (.tup [.str "Unbuilt", .int k])), ?_, rfl, hc, h⟩
    rintro cls d σ' H' ⟨k, ⟨rfl, dd, fs, rfl, hdd, l1, l2⟩, hq⟩
    refine ⟨⟨w1, w2, w3, w4, w5, w6⟩, ⟨z1, z2, z3, z4, z5⟩, fun a na hl => ?_⟩
    have hs : (σ'.set 1 (some (V.ref a)))[1]? = some (some (V.ref a)) := by
      rw [List.getElem?_set_self (by rw [hl]; exact (show 1 < 2 by decide))]
    exact ⟨.ref a, hs, rfl, rfl, dd, fs, _, rfl, hdd, l1, .ref a, hs, rfl, rfl, dd, fs, _, rfl, hdd, l2, show 2 ≤ sizeLine by decide, hq⟩
end Ct
namespace Ct
open PySem PySem.Spec PyProof.Rows L2 He LamX

/-! ### all is kept but the tables of code objects -/
theorem ext_rd {H H' : Hp} (e : ExtN H H') {a : Addr} {u : HO} (hu : ∀ ps, u ≠ .tbl ps) (h : Rd H a u) : Rd H' a u := by
  rcases h with h | ⟨o, h⟩
  · exact .inl (e a u h hu)
  · exact .inr ⟨o, e a _ h fun ps z => by cases z⟩
theorem ext_sqL {K : PySem.W.Frag} {H H' : Hp} (e : ExtN H H') {a : Addr} {xs : List V} (h : SqL K H a xs) : SqL K H' a xs := by
  rcases h with h | h
  · exact .inl (ext_rd e (fun ps z => by cases z) h)
  · exact .inr h
theorem ext_sqT {K : PySem.W.Frag} {H H' : Hp} (e : ExtN H H') {a : Addr} {xs : List V} (h : SqT K H a xs) : SqT K H' a xs := by
  rcases h with h | h
  · exact .inl (ext_rd e (fun ps z => by cases z) h)
  · exact .inr h
mutual
theorem dp_ext {K : PySem.W.Frag} {H H' : Hp} (e : ExtN H H') : ∀ (d : PyData) (v : V), Dp K H v d → Dp K H' v d
  | .none, _, h => by cases h; exact .non
  | .bool b, _, h => by cases h; exact .bl b
  | .int i, _, h => by cases h; exact .int i
  | .str x, _, h => by cases h; exact .str x
  | .list ds, _, h => by
    cases h with
    | lst hs ha => exact .lst (ext_sqL e hs) (dpAll_ext e ds _ ha)
  | .tuple ds, _, h => by
    cases h with
    | tup hs ha => exact .tup (ext_sqT e hs) (dpAll_ext e ds _ ha)
  | .dict _, _, h => by cases h
theorem dpAll_ext {K : PySem.W.Frag} {H H' : Hp} (e : ExtN H H') : ∀ (ds : List PyData) (vs : List V), DpAll K H vs ds → DpAll K H' vs ds
  | [], _, h => by cases h; exact .nil
  | d :: ds, _, h => by
    cases h with
    | cons h1 h2 => exact .cons (dp_ext e d _ h1) (dpAll_ext e ds _ h2)
end
theorem ext_hides (ps : List Addr) {H H' : Hp} (e : ExtN H H') : ExtN (hides ps H) (hides ps H') := fun b o h n => by
  obtain ⟨m, q⟩ := hides_some h
  rw [hides_out m]; exact e b o q n
/-- what is known between two statements of the law -/
structure Cn (K : PySem.W.Frag) (T : List (Addr × Str)) (ps : List Addr) (H : Hp) (σ : L2.St) (ms : List Slot) : Prop where
  env : EnvOk K (hides ps H) (hides ps H) [] ps H σ ms
  tab : Tabs T H
section
variable {K : PySem.W.Frag} {T : List (Addr × Str)} {C B : Hp} {p0 ps : List Addr} {H H' : Hp} {σ : L2.St} {ms : List Slot} {te : TE} {ts tu : TS} {P : PyData → Prop} {N N1 : List Slot → Prop}
theorem tabs_hides (l : ∀ p ∈ ps, ∃ xs, H p = some (.lst xs)) (t : Tabs T H) : Tabs T (hides ps H) := fun p hp => by
  obtain ⟨tb, h1, h2, h3⟩ := t p hp
  refine ⟨tb, ?_, h2, fun pos cv hc => ?_⟩
  · rw [hides_out fun m => by obtain ⟨xs, z⟩ := l _ m; rw [h1] at z; cases z]; exact h1
  · obtain ⟨c, e, hc'⟩ := h3 pos cv hc
    refine ⟨c, e, ?_⟩
    rw [hides_out fun m => by obtain ⟨xs, z⟩ := l _ m; rw [hc'] at z; cases z]; exact hc'
theorem EnvOk.fresh (E : EnvOk K C B p0 ps H σ ms) : EnvOk K (hides ps H) (hides ps H) [] ps H σ ms := by
  refine ⟨hides_le _ _, Same.refl _, fun p h => (by cases h), E.lst, fun i m hi => ?_, E.dis, E.len⟩
  have w := E.slots i m hi
  cases m with
  | no => trivial
  | d x => exact w
  | own xs =>
    obtain ⟨p, vs, a, b, c, d, f⟩ := w
    exact ⟨p, vs, a, b, ⟨hides_in b, fun z => (by cases z)⟩, d, f⟩
  | box b =>
    obtain ⟨a, c, d, f⟩ := w
    exact ⟨a, c, hides_in c, f⟩
/-- from one step within the law's state to the next -/
theorem Cn.step (t : Tabs T H) (l : ∀ p ∈ ps, ∃ xs, H p = some (.lst xs)) {ps' : List Addr} {σ' : L2.St} {ms' : List Slot} (E : EnvOk K (hides ps H) B [] ps' H' σ' ms') : Cn K T ps' H' σ' ms' := ⟨E.fresh, (tabs_hides l t).ext E.keep⟩
/-- a lambda was made: its table has changed -/
theorem EnvOk.lam (E : EnvOk K (hides ps H) (hides ps H) [] ps H σ ms) (e : ExtN H H') : EnvOk K (hides ps H') (hides ps H') [] ps H' σ ms := by
  have el : ∀ {p : Addr} {xs : List V}, H p = some (.lst xs) → H' p = some (.lst xs) := fun h => e _ _ h fun ps z => by cases z
  refine ⟨hides_le _ _, Same.refl _, fun p h => (by cases h), fun p hp => let ⟨xs, q⟩ := E.lst p hp; ⟨xs, el q⟩, fun i m hi => ?_, E.dis, E.len⟩
  have w := E.slots i m hi
  cases m with
  | no => trivial
  | d x =>
    obtain ⟨v, a, b⟩ := w
    exact ⟨v, a, dp_ext (ext_hides ps e) _ _ b⟩
  | own xs =>
    obtain ⟨p, vs, a, b, c, d, f⟩ := w
    exact ⟨p, vs, a, b, ⟨hides_in b, fun z => (by cases z)⟩, el d, dpAll_ext (ext_hides ps e) _ _ f⟩
  | box b =>
    obtain ⟨a, c, d, sl, xs, i', c', s, n, h1, h2, r⟩ := w
    exact ⟨a, c, hides_in c, sl, xs, i', c', s, n, el h1, ext_sqL (ext_hides ps e) h2, r⟩
/-- a statement of the law: it goes on, or True is handed back -/
def GoL (K : PySem.W.Frag) (T : List (Addr × Str)) (ts : TS) (ms : List Slot) (N : List Slot → Prop) : Prop :=
  ∀ (ps : List Addr) (σ : L2.St) (H : Hp), Cn K T ps H σ ms → ∀ D : Ends,
    (∀ ms' ps' σ' H', N ms' → Cn K T ps' H' σ' ms' → ExtN (hides ps H) (hides ps' H') → D.nx σ' H') → (∀ H', D.rt (.bl true) H') → ts D σ H
def EvL (K : PySem.W.Frag) (T : List (Addr × Str)) (te : TE) (ms : List Slot) (P : PyData → Prop) : Prop :=
  ∀ (ps : List Addr) (σ : L2.St) (H : Hp), Cn K T ps H σ ms → ∀ Q : VK,
    (∀ v H' d, P d → Cn K T ps H' σ ms → ExtN (hides ps H) (hides ps H') → Dp K (hides ps H') v d → Q v H') → te σ H Q
theorem gl_of (h : Go K ts ms N (fun _ r => r = .bool true)) : GoL K T ts ms N := fun ps σ H c D k1 k2 =>
  h _ _ _ _ _ _ c.env D (fun ms' ps' σ' H' n E' => k1 ms' ps' σ' H' n (Cn.step c.tab c.env.lst E') (ExtN.of E'.base)) fun v ms' ps' σ' H' r hr E' hd => by
    subst hr
    rw [dp_bool hd]
    exact k2 H'
theorem gl_seq (h1 : GoL K T ts ms N1) (h2 : ∀ m, N1 m → GoL K T tu m N) : GoL K T (tSeq ts tu) ms N := fun ps σ H c D k1 k2 =>
  h1 ps σ H c { D with nx := tu D } (fun m' ps' σ' H' n c' e => h2 m' n ps' σ' H' c' D (fun m2 ps2 σ2 H2 n2 c2 e2 => k1 m2 ps2 σ2 H2 n2 c2 (e.trans e2)) k2) k2
theorem gl_set {i : Nat} (h : EvL K T te ms P) (w : ∀ d, P d → N (ms.set i (.d d))) : GoL K T (tAsg te (gName i)) ms N := fun ps σ H c D k1 k2 =>
  h ps σ H c _ fun v H' d p c' e hd => k1 _ ps _ H' (w d p) ⟨(c'.env.put i hd).fresh, c'.tab⟩ e
theorem gl_forR1 {al : TA} {n : Int} {j : Nat} (h : EvA K al ms (· = [.int n])) (hn : n < 2 ^ 62) (h0 : 0 ≤ n) (I : Nat → List Slot → Prop) (i0 : I 0 ms)
    (hs : ∀ (i : Nat) ms1, i < n.toNat → I i ms1 → GoL K T ts (ms1.set j (.d (.int (i : Int)))) (I (i + 1))) (hd : ∀ ms1, I n.toNat ms1 → N ms1) : GoL K T (tFor (iRng1 al) (gName j) ts) ms N := fun ps σ H c D k1 k2 =>
  h.run c.env fun vs H1 ds p E1 s1 hds => by
    subst p
    have c1 : Cn K T ps H1 σ ms := Cn.step c.tab c.env.lst E1
    cases hds with
    | cons ha hb =>
      cases hb
      refine ⟨n, by rw [dp_int ha], by omega, hn, ?_⟩
      refine for_range (D := D) (fun i σ H2 => ∃ ms1 ps', I i ms1 ∧ Cn K T ps' H2 σ ms1 ∧ ExtN (hides ps H) (hides ps' H2)) ⟨ms, ps, i0, c1, ExtN.of s1⟩ ?_ ?_
      · rintro i σ1 H2 hi ⟨ms1, ps1, hI, c2, e2⟩
        have e0 : (0 : Int) + (i : Int) = (i : Int) := Int.zero_add _
        rw [e0]
        exact hs i ms1 hi hI ps1 _ H2 ⟨(c2.env.put j (.int _)).fresh, c2.tab⟩ _ (fun ms' ps' σ' H' z c' e' => ⟨ms', ps', z, c', e2.trans e'⟩) k2
      · rintro σ1 H2 ⟨ms1, ps1, hI, c2, e2⟩
        exact k1 ms1 ps1 σ1 H2 (hd ms1 hI) c2 e2
theorem gl_forL {tl : TE} {j : Nat} {PL : List PyData → Prop} (h : EvN K tl ms PL) (hw : ∀ ds, PL ds → ∃ I : Nat → List Slot → Prop, I 0 ms ∧
    (∀ (i : Nat) x ms1, ds[i]? = some x → I i ms1 → GoL K T ts (ms1.set j (.d x)) (I (i + 1))) ∧ ∀ ms1, I ds.length ms1 → N ms1) : GoL K T (tFor (iList K tl) (gName j) ts) ms N := fun ps σ H c D k1 k2 =>
  (EvN.ev (P := fun d => ∃ ds, d = .list ds ∧ PL ds) h fun ds p => ⟨ds, rfl, p⟩).run c.env fun v H1 d ⟨ds, ed, p⟩ E1 s1 hd => by
    subst ed
    have c1 : Cn K T ps H1 σ ms := Cn.step c.tab c.env.lst E1
    obtain ⟨I, i0, hs, he⟩ := hw ds p
    obtain ⟨a, xs, rfl, hx, hxs⟩ := dp_list hd
    refine ⟨a, rfl, ⟨xs, (hides_le _ _).seq hx⟩, ?_⟩
    refine for_list (D := D) (K := K) (a := a) (xs := xs) (fun i σ H2 => ∃ ms1 ps', I i ms1 ∧ Cn K T ps' H2 σ ms1 ∧ ExtN (hides ps H1) (hides ps' H2)) ⟨ms, ps, i0, c1, ExtN.refl _⟩ ?_ ?_ ?_
    · rintro i σ1 H2 _ ⟨ms1, ps', hI, c2, e2⟩
      exact (hides_le _ _).seq (ext_sqL e2 hx)
    · rintro i x σ1 H2 hi ⟨ms1, ps', hI, c2, e2⟩
      have hl : i < ds.length := by
        rw [← dp_len hxs]
        exact (List.getElem?_eq_some_iff.mp hi).1
      obtain ⟨v, hv, hdv⟩ := dp_get hxs (List.getElem?_eq_getElem hl)
      rw [hi] at hv; cases hv
      exact hs i _ ms1 (List.getElem?_eq_getElem hl) hI ps' _ H2 ⟨(c2.env.put j (dp_ext e2 _ _ hdv)).fresh, c2.tab⟩ _ (fun ms' ps2 σ' H' z c' e' => ⟨ms', ps2, z, c', e2.trans e'⟩) k2
    · rintro σ1 H2 ⟨ms1, ps', hI, c2, e2⟩
      rw [dp_len hxs] at hI
      exact k1 ms1 ps' σ1 H2 (he ms1 hI) c2 ((ExtN.of s1).trans e2)
/-- tried(lambda: built(..)) -/
theorem evL_lam {al : TA} {p q : List A2} {ws : List Q2} {ts : XK → TE} (ho : ∀ H, Dp K H (.ref (ga K "ORIGIN")) (ad org)) (hts : ∀ E, ts E = tCall (spBuiltP K) [.ref (ga K "ORIGIN")] E al) (ha : EvA K al ms (· = [.tuple [ld p, ld q], pl ws])) (ok : OkBP (p, q, ws)) :
    EvL K T (tLam T (TTtried K) ts) ms (· = exD (builtP ws p q)) := fun ps σ H c Q k => by
  refine ⟨c.tab, fun H1 e1 t1 => ?_⟩
  have E1 := c.env.lam e1
  show ts _ σ H1 _
  rw [hts]
  refine ha.run E1 fun vs H2 ds pd E2 s2 hds => ?_
  subst pd
  refine ⟨ps, [.tuple [ld p, ld q], pl ws] ++ [ad org], E2.lst, dp_app hds (.cons (ho _) .nil), ⟨(p, q, ws), rfl, ok⟩, ?_, ?_⟩
  · rintro v H3 r ⟨a, ea, zs, ez, er⟩ s3 hv
    have ea := aBP_inj (p, q, ws) a ea
    subst ea er
    have ez : builtP ws p q = .ok zs := ez
    refine ⟨show 2 ≤ sizeLine by decide, fun P hP => ?_⟩
    have s : Same H3 (upd H3 P (.tup [.str "told", v])) := same_new hP
    have E3 := (E2.to s3).to s
    have nP : P ∉ ps := fun m => by obtain ⟨xs, z⟩ := (E2.to s3).lst P m; rw [hP] at z; cases z
    refine k _ _ _ rfl (Cn.step t1 E1.lst E3) ((ext_hides ps e1).trans (ExtN.of (s2.trans (hides_mono ps (s3.trans s))))) ?_
    rw [ez]
    exact .tup (.inl (.inl (by rw [hides_out nP]; exact upd_same))) (.cons (.str _) (.cons (hv.to (hides_mono ps s)) .nil))
  · rintro n cls d H3 ⟨a, ea, m, em, en⟩ hx s3
    have ea := aBP_inj (p, q, ws) a ea
    subst ea en
    have em : builtP ws p q = .error m := em
    refine ⟨_, hx, fun P hP => ?_⟩
    have s : Same H3 (upd H3 P (.tup [.str "Unbuilt", .int (m : Int)])) := same_new hP
    have E3 := (E2.to s3).to s
    have nP : P ∉ ps := fun m => by obtain ⟨xs, z⟩ := (E2.to s3).lst P m; rw [hP] at z; cases z
    refine k _ _ _ rfl (Cn.step t1 E1.lst E3) ((ext_hides ps e1).trans (ExtN.of (s2.trans (hides_mono ps (s3.trans s))))) ?_
    rw [em]
    exact .tup (.inl (.inl (by rw [hides_out nP]; exact upd_same))) (.cons (.str _) (.cons (.int _) .nil))
/-- if not like(tried(..), b(..)): return False -/
theorem gl_ifLam {n : Nat} {tl tb : TE} {d : PyData} {tr : TS} (h1 : EvL K T tl ms (· = d)) (h2 : Ev K tb ms (· = d)) (hd : LikeD n d) (w : N ms) : GoL K T (tIfS (tNot (tB (tCall (spLike K n) [] E0 (tCons tl (tCons tb tNil))))) tr tNext) ms N := fun ps σ H c D k1 k2 =>
  h1 ps σ H c _ fun v H1 d1 p1 c1 e1 hv => h2.run c1.env fun u H2 d2 p2 E2 s2 hu => by
    subst p1 p2
    refine ⟨ps, [_, _], E2.lst, .cons (hv.to s2) (.cons hu .nil), ⟨_, rfl, hd⟩, fun v3 H3 r hr s3 hr3 => ?_⟩
    subst hr
    rw [dp_bool hr3]
    exact ⟨true, rfl, iteF (k1 ms ps σ H3 w (Cn.step c1.tab c1.env.lst (E2.to s3)) (e1.trans (ExtN.of (s2.trans (hides_mono ps s3)))))⟩
end
end Ct
namespace Ct
open PySem PySem.Spec PyProof.Rows L2 He LamX

theorem runB_len {mt : A2 → A2} {rs : Q2 → List A2 → A2 × A2} : ∀ (hs : List Q2) (k : Nat) (p q zs p' q' : List A2), runB mt rs hs k p q = .ok (zs, p', q') → zs.length = hs.length
  | [], k, p, q, zs, p', q', h => by
    rw [runB_nil] at h
    injection h with h
    injection h with h _
    subst h
    rfl
  | x :: hs, k, p, q, zs, p', q', h => by
    cases hf : frontA mt (rs x p).1 (rs x p).2 (rs x q).1 (rs x q).2 x with
    | none => rw [runB_none hf] at h; cases h
    | some z =>
      rw [runB_some hf] at h
      cases hr : runB mt rs hs (k + 1) (quot x (lows mt p q z)) (quot x (highs mt p q z)) with
      | error e => rw [hr] at h; cases h
      | ok a =>
        obtain ⟨ys, e⟩ := a
        rw [hr] at h
        injection h with h
        injection h with h1 h2
        subst h2
        rw [← h1, List.length_append, List.length_cons, List.length_cons, runB_len hs _ _ _ _ _ _ hr, List.length_nil]
        omega
theorem builtL_size {hs : List Q2} {p q cs : List A2} (h : builtL hs p q = .ok cs) : cs.length = hs.length + 1 := by
  by_cases hL : Lens hs p q
  · cases hr : runB mateL restL hs 0 p q with
    | error e => rw [builtL_err hL hr] at h; cases h
    | ok a =>
      obtain ⟨zs, p', q'⟩ := a
      rw [builtL_ok hL hr] at h
      split at h
      · injection h with h
        rw [← h, corners_len, runB_len _ _ _ _ _ _ _ hr]
      · cases h
  · rw [builtL_len hL] at h; cases h
theorem like_pd (x : Q2) : LikeD 2 (pd x) := ⟨by simp, fun d hd => by
  simp only [List.mem_cons, List.not_mem_nil, or_false] at hd
  rcases hd with rfl | rfl <;> trivial⟩
theorem like_ad (z : A2) : LikeD 3 (ad z) := ⟨by simp, fun d hd => by
  simp only [List.mem_cons, List.not_mem_nil, or_false] at hd
  rcases hd with rfl | rfl <;> exact like_pd _⟩
theorem like_ld {zs : List A2} (h : zs.length ≤ 800) : LikeD 4 (ld zs) := ⟨by rw [List.length_map]; exact h, fun d hd => by
  obtain ⟨z, _, rfl⟩ := List.mem_map.mp hd
  exact like_ad z⟩
theorem like_ex {hs : List Q2} {p q : List A2} (h : hs.length ≤ 700) : LikeD 5 (exD (builtL hs p q)) := by
  cases e : builtL hs p q with
  | error k => exact ⟨by simp, fun d hd => by
      simp only [List.mem_cons, List.not_mem_nil, or_false] at hd
      rcases hd with rfl | rfl <;> trivial⟩
  | ok cs =>
    have hl := builtL_size e
    exact ⟨by simp, fun d hd => by
      simp only [List.mem_cons, List.not_mem_nil, or_false] at hd
      rcases hd with rfl | rfl
      · trivial
      · exact like_ld (by omega)⟩
abbrev s_law : Stmt := topS 75
abbrev nLaw : List Str := ["_law_script", "_law_box_here", "_law_turn", "_law_rods_here", "_law_p", "_law_q", "_law_weights", "_law_handed", "_law_told", "_law_few", "_law_name", "_law_z"]
theorem sc_law : FnScope nLaw ["_law_script"] (defScope s_law) := ⟨rfl, rfl, rfl, by decide +kernel, rfl, by decide +kernel, by decide +kernel⟩
/-- what the law calls -/
structure Defs (P : Program) (w : World) (K : PySem.W.Frag) (mg : Str → Option Value) (base : Heap) (fI : Addr) : Prop where
  box : OkD P w K mg base "_law_box" 33 ["_law_script"] [] (spBox K)
  rods : OkD P w K mg base "_law_rods" 38 ["_law_box_here", "_law_low_here", "_law_most"] [] (spRods K)
  whole : OkD P w K mg base "_law_whole" 37 ["_law_rods_here"] [] (spWhole K)
  bent : OkD P w K mg base "_law_bent_whole" 37 ["_law_box_here", "_law_p", "_law_q", "_law_weights"] [] (spBent K)
  weight : OkD P w K mg base "_law_weight" 36 ["_law_one"] [] (spWeight K)
  like : OkD P w K mg base "_law_like" 38 ["_law_found", "_law_due"] [] (spLike K 5)
  lbuilt : OkD P w K mg base "_law_built" 39 ["_law_p", "_law_q", "_law_weights"] [] (spBuiltL K)
  built : OkE P w K mg base "built" 39 ["told", "weights", "start"] [.ref (ga K "ORIGIN")] (spBuiltP K)
  tried : IsDef K mg "_law_tried" s_l_tried
  org : Con1 K mg "ORIGIN" (ad org)
  tr : TrC K mg
  ub : UbC K mg fI
  ml : mg "len" = none
  mi : mg "list" = none
  mr : mg "range" = none
  mt : mg "int" = none
section
variable {P : Program} {w : World} {K : PySem.W.Frag} {mg : Str → Option Value} {base : Heap} {fI : Addr}
/-- tried(lambda: built(handed, list(weights))) and its like: a, b the arguments -/
theorem pe_tried {X : Cx} {c Pt : Addr} {al : TA} {params : Arguments} {body : Expr} {scope : Scope} {p lpos pos : Pos} (Df : Defs X.prog X.w X.K X.mg X.base fI) (hg : Gl X "_law_tried") (TB : TabB X.base X.mg c Pt) (hcode : X.env.code = .ref c) (hr : Room 41 X.A) (L : LamS X.env.scope scope)
    (hdef : defaultsOf params X.env = ([], [])) (hbind : ∀ (q : Str) (cl : List (Str × Addr)) (pm cv ctv : Value), bindArgs (PySem.W.kla_fn "<lambda>" q params body scope cl pm cv ctv) ⟨[], []⟩ = pure [])
    (hbody : ∀ (A : Around) (outer : List Env) (s : Shared) (H : Hp) (E : XK) (f c' : Addr), Room 39 (A.deeper (lamEnv X scope s.heap.objs.size f c')) → PE (lamCx X A outer s H E scope f c') body (tCall (spBuiltP X.K) [.ref (ga X.K "ORIGIN")] E al)) :
    PE X (.Call (.Name "_law_tried" p) [.Lambda params body scope lpos] [] pos) (tLam [(Pt, X.env.qual ++ "<lambda>")] (TTtried X.K) (fun E => tCall (spBuiltP X.K) [.ref (ga X.K "ORIGIN")] E al)) := by
  obtain ⟨m, fd, F⟩ := Df.tried
  obtain ⟨oc, od, dV, kV, doc, pm, an, cdv, ct, osl, rfl, lk, hcd, hD, hK⟩ := F.ex
  have hb := F.bindsN (ps := ["_law_act"]) (fun _ _ _ _ _ _ us hl => match us, hl with | [_], _ => rfl)
  exact pe_lamcall (k := 39) (Ng := ["_law_act", "e"]) (a := "_law_act") (t := fun E => tCall (spBuiltP X.K) [.ref (ga X.K "ORIGIN")] E al) hg m F.kp lk hcd hb sc_l_tried rfl (.inl rfl) (tried_gives Df.tr Df.ub) TB hcode (List.mem_singleton.mpr rfl) (fun p hp _ => by rw [List.mem_singleton.mp hp]) hr L hdef hbind hbody
/-- the table of the law's own code and its lambdas' name -/
abbrev lawT (Pt : Addr) : List (Addr × Str) := [(Pt, (envOfC "law" (defScope s_law) 0 0 .none).qual ++ "<lambda>")]
def spLaw (K : PySem.W.Frag) (Pt : Addr) : Sp := fun vs H Q _ => ∃ (a : Addr) (xs : List Int), vs = [.ref a] ∧ SqL K H a (xs.map .int) ∧ Tabs (lawT Pt) H ∧ ∀ H', Q (.bl true) H'
/-- the box is there -/
theorem gl_box {Pt : Addr} {rest : List Slot} {xs : List Int} (hr : ∀ m ∈ rest, m = .no) {N : List Slot → Prop} (n : ∀ b, N (.d (.list (xs.map .int)) :: .box b :: rest)) : GoL K (lawT Pt) (tAsg (tCall (spBox K) [] E0 (tCons (tVar 0) tNil)) (gName 1)) (.d (.list (xs.map .int)) :: .no :: rest) N := fun ps σ H cn D k1 k2 => by
  obtain ⟨v, hv, hd⟩ := cn.env.slots 0 _ rfl
  obtain ⟨a, vs, rfl, ha, hvs⟩ := dp_list hd
  have ev : vs = xs.map V.int := by
    have key : ∀ (xs : List Int) (vs : List V), DpAll K (hides ps H) vs (xs.map PyData.int) → vs = xs.map V.int := fun xs => by
      induction xs with
      | nil => intro vs h; cases h; rfl
      | cons x xs ih =>
        intro vs h
        cases h with
        | cons h1 h2 => rw [dp_int h1, ih _ h2]; rfl
    exact key xs vs hvs
  subst ev
  refine ⟨.ref a, hv, a, xs, rfl, (hides_le _ _).seq ha, fun b sl H' s hb hs ne h1 h2 => ?_⟩
  have sh : Same (hides ps H) (hides (b :: ps) H') := fun y o e => by
    obtain ⟨m, q⟩ := hides_some e
    rw [hides_out fun z => ?_]
    · exact s y o q
    · rcases List.mem_cons.mp z with rfl | z
      · rw [hb] at q; cases q
      · exact m z
  have nbp : b ∉ ps := fun m => by obtain ⟨ys, z⟩ := cn.env.lst b m; rw [hb] at z; cases z
  have nsp : sl ∉ ps := fun m => by obtain ⟨ys, z⟩ := cn.env.lst sl m; rw [hs] at z; cases z
  have E1 : EnvOk K (hides (b :: ps) H') (hides (b :: ps) H') [] (b :: ps) H' (σ.set 1 (some (.ref b))) (.d (.list (xs.map .int)) :: .box b :: rest) := by
    refine ⟨hides_le _ _, Same.refl _, fun p h => (by cases h), fun p hp => ?_, fun i m hi => ?_, fun i j m n hij hi hj e1 e2 => ?_, by rw [List.length_set, cn.env.len]; rfl⟩
    · rcases List.mem_cons.mp hp with rfl | hp
      · exact ⟨_, h1⟩
      · obtain ⟨ys, q⟩ := cn.env.lst p hp
        exact ⟨ys, s _ _ q⟩
    · match i, hi with
      | 0, hi =>
        rw [← Option.some.inj hi, List.getElem?_set_ne (by decide)]
        exact ⟨_, hv, hd.to sh⟩
      | 1, hi =>
        have hl : 1 < σ.length := by rw [cn.env.len]; simp
        rw [← Option.some.inj hi, List.getElem?_set_self hl]
        refine ⟨rfl, List.mem_cons_self, hides_in List.mem_cons_self, sl, xs.take 63, 0, 0, 53, 0, h1, .inl (.inl ?_), by decide, by omega, by rw [List.length_take]; omega, by decide, by decide, by decide⟩
        rw [hides_out fun z => ?_]
        · exact h2
        · rcases List.mem_cons.mp z with e | z
          · exact ne e
          · exact nsp z
      | i + 2, hi =>
        have e : rest[i]? = some m := hi
        rw [hr m (List.mem_of_getElem? e)]
        trivial
    · have key : ∀ (i : Nat) (m : Slot), (Slot.d (.list (xs.map .int)) :: .box b :: rest)[i]? = some m → m.mut = true → i = 1 := fun i m hi e => by
        match i, hi with
        | 0, hi => rw [← Option.some.inj hi] at e; cases e
        | 1, hi => rfl
        | i + 2, hi =>
          have q : rest[i]? = some m := hi
          rw [hr m (List.mem_of_getElem? q)] at e; cases e
      exact absurd ((key i m hi e1).trans (key j n hj e2).symm) hij
  exact k1 _ (b :: ps) _ H' (n b) ⟨E1, cn.tab.ext s⟩ (ExtN.of sh)
theorem ok_law {c Pt f : Addr} {oc : Value} {od : Option Addr} {dV kV doc pm ct : Value} {an : Option Addr} {osl : Array (Option Value)} (lk : K.lookup f = some ⟨oc, od, .func (PySem.W.fnOf "law" "law" (defArgs s_law) (defBody s_law) (defScope s_law) dV kV doc pm an (.ref c) ct), osl⟩)
    (hcd : PySem.W.codeIn K (.ref c) "law" = true) (TB : TabB base mg c Pt) (Df : Defs P w K mg base fI) (M : MathOk) : FnOk P w K mg base CX0 42 f (PySem.W.fnOf "law" "law" (defArgs s_law) (defBody s_law) (defScope s_law) dV kV doc pm an (.ref c) ct) ["_law_script"] (spLaw K Pt) := by
  refine fn_of (k := 41) (N := nLaw) lk hcd sc_law (fun vs H Q E h => ?_) fun A outer s H vs Q E hr h => ?_
  · obtain ⟨a, xs, rfl, _⟩ := h
    rfl
  obtain ⟨a, xs, rfl, ha, hT, hq⟩ := h
  have hr9 : Room 39 (A.deeper (envOfC "law" (defScope s_law) s.heap.objs.size f (.ref c))) := hr.mono (by decide)
  have hr8 : Room 38 (A.deeper (envOfC "law" (defScope s_law) s.heap.objs.size f (.ref c))) := hr.mono (by decide)
  have hr7 : Room 37 (A.deeper (envOfC "law" (defScope s_law) s.heap.objs.size f (.ref c))) := hr.mono (by decide)
  have hr6 : Room 36 (A.deeper (envOfC "law" (defScope s_law) s.heap.objs.size f (.ref c))) := hr.mono (by decide)
  have hr3 : Room 33 (A.deeper (envOfC "law" (defScope s_law) s.heap.objs.size f (.ref c))) := hr.mono (by decide)
  obtain ⟨fb, dsb, Fb, Bb, vb, mb, kb⟩ := Df.built
  have body : ∃ t, PSs (cxOf CX0 P w K mg base nLaw "law" (defScope s_law) f (.ref c) A outer s H E).nox (defBody s_law) t ∧ t { nx := fun _ H' => Q .non H', rt := Q } (L2.start nLaw [.ref a]) H := by
   refine ⟨_,
    pss_cons (ps_set (i := 1) sc_law.nd rfl (.inl rfl) (pe_fn Df.box hr3 (pa_cons (pv 0) pa_nil)))
    (pss_cons (ps_for PassesOwn.never rfl (pi_range1 (by rfl) Df.mr (pa_cons pe_int pa_nil)) (pg_name (i := 2) sc_law.nd rfl (.inl rfl))
      (pss_cons (ps_set (i := 3) sc_law.nd rfl (.inl rfl) (pe_fn Df.rods hr8 (pa_cons (pv 1) (pa_cons pe_int (pa_cons pe_int pa_nil)))))
      (pss_cons (ps_asg (pe_fn Df.whole hr7 (pa_cons (pv 3) pa_nil)) (pg_tup rfl (pgs_cons (pg_name (i := 4) sc_law.nd rfl (.inl rfl)) (pgs_cons (pg_name (i := 5) sc_law.nd rfl (.inl rfl)) pgs_nil))))
      (pss_cons (ps_asg (pe_fn Df.bent hr7 (pa_cons (pv 1) (pa_cons (pv 4) (pa_cons (pv 5) (pa_cons (pe_lc (own := [("_law_name", 10), ("_law_z", 11)]) (g := gTup K 2 (gCons (gName 10) (gCons (gName 11) gNil))) (tt := tYes) rfl sc_law.nd (pi_list (pv 3)) (blkOk_by (N := nLaw) (sc := defScope s_law) (by decide +kernel))
          (fun _ _ _ _ _ => pg_tup rfl (pgs_cons (pg_name (i := 10) sc_law.nd rfl (.inl rfl)) (pgs_cons (pg_name (i := 11) sc_law.nd rfl (.inl rfl)) pgs_nil))) (fun _ _ _ _ _ => pts_nil) (fun _ _ _ _ _ => pe_fn Df.weight hr6 (pa_cons (pv 11) pa_nil))) pa_nil)))))
        (pg_tup rfl (pgs_cons (pg_name (i := 4) sc_law.nd rfl (.inl rfl)) (pgs_cons (pg_name (i := 5) sc_law.nd rfl (.inl rfl)) (pgs_cons (pg_name (i := 6) sc_law.nd rfl (.inr rfl)) pgs_nil)))))
      (pss_cons (ps_set (i := 7) sc_law.nd rfl (.inr rfl) (pe_tup (pa_cons (pe_callTy call_list_of (by rfl) Df.mi (by decide +kernel) (pa_cons (pv 4) pa_nil)) (pa_cons (pe_callTy call_list_of (by rfl) Df.mi (by decide +kernel) (pa_cons (pv 5) pa_nil)) pa_nil))))
      (pss_cons (ps_set (i := 8) sc_law.nd rfl (.inl rfl) (pe_tried (X := (cxOf CX0 P w K mg base nLaw "law" (defScope s_law) f (.ref c) A outer s H E).nox) (al := tCons (tVar 7) (tCons (tCB (fun xs H Q => ∃ p ys, xs = [.ref p] ∧ (SqL K H p ys ∨ SqT K H p ys) ∧ ∀ l, H l = none → Q (.ref l) (upd H l (.lst ys))) (tCons (tVar 6) tNil)) tNil)) Df (by rfl) TB rfl hr (lamS_by (sc := defScope s_law) (by decide +kernel)) rfl (fun _ _ _ _ _ => rfl)
        (fun A outer s H E f c' hr' => pe_call Fb hr' (by rfl) mb kb Bb vb (passes_call (takes_of rfl rfl rfl rfl) (fun _ _ _ _ h => h)) (pa_cons (pv 7) (pa_cons (pe_callTy call_list_of (by rfl) Df.mi (by decide +kernel) (pa_cons (pv 6) pa_nil)) pa_nil)))))
      (pss_cons (ps_if (PW.pt (pw_or (pt_not (pt_val (pe_fn Df.like hr8 (pa_cons (pv 8) (pa_cons (pe_fn Df.lbuilt hr9 (pa_cons (pv 4) (pa_cons (pv 5) (pa_cons (pv 6) pa_nil)))) pa_nil)))))
          (pw_or1 (pt_cmpR (op_neD hr.units) (pv 7) (pe_tup (pa_cons (pv 4) (pa_cons (pv 5) pa_nil))) (nomark _))))) (pss_one (ps_ret pe_bl)) pss_nil)
      (pss_one (ps_for PassesOwn.never rfl (pi_list (pe_op op_catL (pe_op op_rep (pe_lst (pa_cons (pe_slice sl_list (pv 6) po_none (po_some (pe_un un_neg pe_int))) pa_nil)) (pe_callTy call_int1 (by rfl) Df.mt (by decide +kernel) (pa_cons (pe_cmpR op_gt (pe_callB call_len_seq (by rfl) Df.ml PySem.boot_len (pa_cons (pv 6) pa_nil)) pe_int (nomark _)) pa_nil)))
          (pe_lst (pa_cons (pe_op op_catL (pv 6) (pe_lst (pa_cons (pe_tup (pa_cons pe_int (pa_cons pe_int pa_nil))) pa_nil))) pa_nil)))) (pg_name (i := 9) sc_law.nd rfl (.inr rfl))
        (pss_one (ps_if (pt_not (pt_val (pe_fn Df.like hr8 (pa_cons (pe_tried (X := (cxOf CX0 P w K mg base nLaw "law" (defScope s_law) f (.ref c) A outer s H E).nox) (al := tCons (tVar 7) (tCons (tVar 9) tNil)) Df (by rfl) TB rfl hr (lamS_by (sc := defScope s_law) (by decide +kernel)) rfl (fun _ _ _ _ _ => rfl)
            (fun A outer s H E f c' hr' => pe_call Fb hr' (by rfl) mb kb Bb vb (passes_call (takes_of rfl rfl rfl rfl) (fun _ _ _ _ h => h)) (pa_cons (pv 7) (pa_cons (pv 9) pa_nil))))
          (pa_cons (pe_fn Df.lbuilt hr9 (pa_cons (pv 4) (pa_cons (pv 5) (pa_cons (pv 9) pa_nil)))) pa_nil))))) (pss_one (ps_ret pe_bl)) pss_nil)))))))))))
    (pss_one (ps_ret pe_bl))), ?_⟩
   have scr : Dp K (hides [] H) (.ref a) (.list (xs.map PyData.int)) := by
     have e : hides [] H = H := by funext y; rfl
     rw [e]
     exact .lst ha (dp_ints xs)
   have E0 : EnvOk K H (hides [] H) [] [] H (L2.start nLaw [.ref a]) (startM nLaw [.list (xs.map PyData.int)]) := start_ok (fun p h => (by cases h)) (.cons scr .nil)
   have em : startM nLaw [.list (xs.map PyData.int)] = [.d (.list (xs.map PyData.int)), .no, .no, .no, .no, .no, .no, .no, .no, .no, .no, .no] := rfl
   rw [em] at E0
   have main : ∀ {t : TS}, GoL K (lawT Pt) t [.d (.list (xs.map PyData.int)), .no, .no, .no, .no, .no, .no, .no, .no, .no, .no, .no] (fun _ => False) → t { nx := fun _ H' => Q .non H', rt := Q } (L2.start nLaw [.ref a]) H := fun g => g [] _ H ⟨E0.fresh, hT⟩ _ (fun _ _ _ _ z => z.elim) fun H' => hq H'
   refine main ?_
   refine gl_seq (N1 := fun ms => ∃ b, ms = [.d (.list (xs.map PyData.int)), .box b, .no, .no, .no, .no, .no, .no, .no, .no, .no, .no]) (gl_box (xs := xs) (by simp) fun b => ⟨b, rfl⟩) ?_
   rintro ms ⟨b, rfl⟩
   clear E0 em main scr
   generalize PyData.list (xs.map PyData.int) = scr
   refine gl_seq (N1 := fun _ => True) (gl_forR1 (n := 4) (ea_1 ev_int) (by decide) (by decide) (fun i ms => ∃ x2 x3 x4 x5 x6 x7 x8 x9 : Slot, ms = [.d scr, .box b, x2, x3, x4, x5, x6, x7, x8, x9, .no, .no]) ⟨_, _, _, _, _, _, _, _, rfl⟩ ?_ fun _ _ => trivial) fun ms _ => gl_of (go_ret ev_bl fun d e => e)
   rintro i ms1 hi ⟨x2, x3, x4, x5, x6, x7, x8, x9, rfl⟩
   refine gl_seq (N1 := fun ms => ∃ rs : List (Str × A2), ms = [.d scr, .box b, .d (.int (i : Int)), .d (rl rs), x4, x5, x6, x7, x8, x9, .no, .no] ∧ 1 ≤ rs.length ∧ rs.length ≤ 5 ∧ ∀ x ∈ rs, SmA x.2) (gl_of (go_set (P := RodsOk 1 5) (ev_callB (i := 1) rfl (ea_2 ev_int ev_int) fun ds e => ⟨⟨1, 5, by rw [e]; rfl, by decide, by decide, by decide⟩, fun r ⟨lo, hi, e', h⟩ => by
     rw [e] at e'
     injection e' with e1 e2
     injection e2 with e2 _
     injection e1 with e1
     injection e2 with e2
     have l1 : lo = 1 := by omega
     have l2 : hi = 5 := by omega
     rw [l1, l2] at h
     exact h⟩) fun d ⟨rs, e, h⟩ => by subst e; exact ⟨rs, rfl, h⟩)) ?_
   rintro ms ⟨rs, rfl, r1, r2, hsm⟩
   have zsm : ∀ z ∈ rs.map (fun x : Str × A2 => x.2), SmA z := fun z hz => by
     obtain ⟨x, hx, rfl⟩ := List.mem_map.mp hz
     exact hsm x hx
   have zl1 : 1 ≤ (rs.map (fun x : Str × A2 => x.2)).length := by rw [List.length_map]; exact r1
   have zl2 : (rs.map (fun x : Str × A2 => x.2)).length ≤ 5 := by rw [List.length_map]; exact r2
   have okb := M.bent _ zsm zl1 zl2
   have run := M.run (rs.map (fun x : Str × A2 => x.2))
   have szw := M.whole _ zsm zl1 zl2
   refine gl_seq (N1 := fun ms => ms = [.d scr, .box b, .d (.int (i : Int)), .d (rl rs), .d (ld (wholeGo (rs.map (fun x : Str × A2 => x.2)) [lone] []).1), .d (ld (wholeGo (rs.map (fun x : Str × A2 => x.2)) [lone] []).2), x6, x7, x8, x9, .no, .no]) (gl_of (go_asg (ca_X aRl_inj (a := rs) (ea_1 (ev_var (i := 3) rfl)) ⟨szw, by omega⟩) fun d e => ⟨_, by subst e; exact tg_tup2, rfl⟩)) ?_
   rintro ms rfl
   generalize hp : (wholeGo (rs.map (fun x : Str × A2 => x.2)) [lone] []).1 = p at okb run ⊢
   generalize hq' : (wholeGo (rs.map (fun x : Str × A2 => x.2)) [lone] []).2 = q at okb run ⊢
   have wts : ∀ {ms : List Slot}, ms[3]? = some (.d (rl rs)) → ms[10]? = some .no → ms[11]? = some .no → ms.length = 12 → Ev K (tLc (iList K (tVar 3)) (gTup K 2 (gCons (gName 10) (gCons (gName 11) gNil))) tYes (tCall (spWeight K) [] E0 (tCons (tVar 11) tNil)) [10, 11]) ms (· = pl ((rs.map (fun x : Str × A2 => x.2)).map weight)) := fun {ms} h3 h10 h11 hlen =>
     EvN.ev (PL := (· = ((rs.map (fun x : Str × A2 => x.2)).map weight).map pd)) (ev_lcL2 (ds := rs.map rd) (i1 := 10) (j1 := 11) (x := fun k d => ∃ r, rs[k]? = some r ∧ d = pd (weight r.2)) (ev_var h3) (by rw [List.length_map]; omega) (by decide) h10 h11 (fun k d hk => by
       rw [List.getElem?_map] at hk
       cases e : rs[k]? with
       | none => rw [e] at hk; cases hk
       | some r =>
         rw [e] at hk
         have hk : rd r = d := Option.some.inj hk
         subst hk
         exact ⟨_, _, rfl, (ca_A (ev_var (i := 11) (by rw [List.getElem?_set_self (by rw [List.length_set, hlen]; decide)])) (M.wt _ (hsm r (List.mem_of_getElem? e)))).weak fun d e => ⟨r, rfl, e⟩⟩) fun ds h1 h2 => by
       apply List.ext_getElem?
       intro k
       by_cases hk : k < ds.length
       · obtain ⟨r, hr, er⟩ := h2 k _ (List.getElem?_eq_getElem hk)
         rw [List.getElem?_eq_getElem hk, er, List.getElem?_map, List.getElem?_map, List.getElem?_map, hr]
         rfl
       · rw [List.getElem?_eq_none (by omega), List.getElem?_eq_none (by simp at h1 ⊢; omega)]) fun ds e => by rw [e]; rfl
   refine gl_seq (N1 := fun ms => ∃ bt : TupW, ms = [.d scr, .box b, .d (.int (i : Int)), .d (rl rs), .d (ld bt.1), .d (ld bt.2.1), .d (pl bt.2.2), x7, x8, x9, .no, .no] ∧ Bent (p, q, (rs.map (fun x : Str × A2 => x.2)).map weight) bt) (gl_of (go_asg (P := fun d => ∃ bt : TupW, d = .tuple (aW bt) ∧ Bent (p, q, (rs.map (fun x : Str × A2 => x.2)).map weight) bt) (ev_callB (i := 1) rfl (ea_3 (ev_var (i := 4) rfl) (ev_var (i := 5) rfl) (wts rfl rfl rfl rfl)) fun ds e => ⟨⟨(p, q, (rs.map (fun x : Str × A2 => x.2)).map weight), e, okb⟩, fun r ⟨a, bt, e', er, hb⟩ => by
     rw [e] at e'
     have ea := aW_inj (a := (p, q, (rs.map (fun x : Str × A2 => x.2)).map weight)) (b := a) e'
     rw [← ea] at hb
     exact ⟨bt, er, hb⟩⟩) fun d ⟨bt, e, hb⟩ => ⟨_, by subst e; exact tg_tup3 (d1 := ld bt.1) (d2 := ld bt.2.1) (d3 := pl bt.2.2), bt, rfl, hb⟩)) ?_
   rintro ms ⟨⟨p', q', w'⟩, rfl, hb⟩
   have R0 := run (p', q', w') w' zsm zl1 zl2 hb (.inl rfl)
   have R1 := run (p', q', w') w'.dropLast zsm zl1 zl2 hb (.inr (.inl rfl))
   have R2 := run (p', q', w') (w' ++ [(1, 1)]) zsm zl1 zl2 hb (.inr (.inr rfl))
   have lw : w'.length ≤ 5 := by
     have q1 := hb.lw
     have q2 : w'.length = ((rs.map (fun x : Str × A2 => x.2)).map weight).length := q1
     rw [q2]; simpa using r2
   refine gl_seq (N1 := fun ms => ms = [.d scr, .box b, .d (.int (i : Int)), .d (rl rs), .d (ld p'), .d (ld q'), .d (pl w'), .d (.tuple [ld p', ld q']), x8, x9, .no, .no]) (gl_of (go_set (e_pair (x := ld p') (y := ld q') (EvN.ev (en_list (PL := (· = p'.map ad)) (ea_1 (ev_var (i := 4) rfl)) fun ds e => ⟨_, .inl e, rfl⟩) fun ds e => by rw [e]; rfl) (EvN.ev (en_list (PL := (· = q'.map ad)) (ea_1 (ev_var (i := 5) rfl)) fun ds e => ⟨_, .inl e, rfl⟩) fun ds e => by rw [e]; rfl)) fun d e => by rw [e]; rfl)) ?_
   rintro ms rfl
   refine gl_seq (N1 := fun ms => ms = [.d scr, .box b, .d (.int (i : Int)), .d (rl rs), .d (ld p'), .d (ld q'), .d (pl w'), .d (.tuple [ld p', ld q']), .d (exD (builtL w' p' q')), x9, .no, .no]) (gl_set (evL_lam (p := p') (q := q') (ws := w') Df.org.2 (fun _ => rfl) (ea_2 (ev_var (i := 7) rfl) (EvN.ev (P := (· = pl w')) (en_list (PL := (· = w'.map pd)) (ea_1 (ev_var (i := 6) rfl)) fun ds e => ⟨_, .inl e, rfl⟩) fun ds e => by rw [e]; rfl)) R0.1) fun d e => by rw [e, R0.2.2]; rfl) ?_
   rintro ms rfl
   refine gl_seq (N1 := fun ms => ms = [.d scr, .box b, .d (.int (i : Int)), .d (rl rs), .d (ld p'), .d (ld q'), .d (pl w'), .d (.tuple [ld p', ld q']), .d (exD (builtL w' p' q')), x9, .no, .no]) (gl_of (go_if (t_or (a := false) (b := false) (et_not (PA := (· = true)) (t_testB (ev_call (P := (· = .bool true)) (ea_2 (ev_var (i := 8) rfl) (ca_X aBL_inj (a := (p', q', w')) (ea_3 (ev_var (i := 4) rfl) (ev_var (i := 5) rfl) (ev_var (i := 6) rfl)) R0.2.1)) fun ds e => ⟨⟨_, e, like_ex (by omega)⟩, fun r hr => hr⟩)) fun b e => by rw [e]; rfl)
     ((t_test (e_neLL (a := p') (b := q') (c := p') (d := q') (ev_var (i := 7) rfl) (e_pair (ev_var (i := 4) rfl) (ev_var (i := 5) rfl)))).weak fun b e => by rw [e]; simp)) (fun z => by cases z) fun _ => go_next rfl)) ?_
   rintro ms rfl
   have lst : ∀ {ms : List Slot}, ms[6]? = some (.d (pl w')) → EvN K (tOp (rCatL K) (tOp rRep (tLst (tCons (tSl (rSlL K) (tVar 6) tNoPart (tPart (tUn (rU fun i => .int (-i)) (tC (.int 1))))) tNil)) (tCB (fun xs H Q => (∃ i, xs = [.int i] ∧ Q (.int i) H) ∨ ∃ k, xs = [.bl k] ∧ Q (.int (if k then 1 else 0)) H) (tCons (tOp (rI0 fun i j => .bl (decide (j < i))) (tLen K (tCons (tVar 6) tNil)) (tC (.int 1))) tNil))) (tLst (tCons (tOp (rCatL K) (tVar 6) (tLst (tCons (tTup (tCons (tC (.int 1)) (tCons (tC (.int 1)) tNil))) tNil))) tNil))) ms (· = (if 1 < w'.length then [pl w'.dropLast] else []) ++ [pl (w' ++ [(1, 1)])]) := fun h6 =>
     en_catP (PA := (· = .list (if 1 < w'.length then [pl w'.dropLast] else []))) (PB := (· = .list [pl (w' ++ [(1, 1)])])) (EvN.ev (PL := (· = if 1 < w'.length then [pl w'.dropLast] else [])) (en_rep (PA := (· = [pl w'.dropLast])) (n := if 1 < w'.length then 1 else 0) (en_lst (ea_1 ((e_sl (xs := w'.map pd) (ev_var h6) eo_none (eo_some (e_neg (i := 1) ev_int))).weak (P := (· = pl w'.dropLast)) fun d e => by rw [e]; unfold pl; rw [List.map_dropLast]; exact congrArg _ cut_last)) fun ds e => by rw [e]; exact (show 1 ≤ 1000 by decide))
       (fun a e => by rw [e]; split <;> simp) (ev_cb (P := (· = .int (if 1 < w'.length then 1 else 0))) (ea_1 (e_gt (e_lenP (ev_var h6)) ev_int)) fun ps H xs ds Q _ p1 h1 k => by
         subst p1
         cases h1 with
         | cons h2 h3 =>
           cases h3
           refine .inr ⟨_, by rw [dp_bool h2], ?_⟩
           have e : (if decide ((1 : Int) < (w'.length : Int)) = true then (1 : Int) else 0) = if 1 < w'.length then 1 else 0 := by
             by_cases z : 1 < w'.length
             · rw [if_pos z, if_pos (decide_eq_true (by omega))]
             · rw [if_neg z, if_neg (by simp; omega)]
           rw [e]
           exact k _ H _ rfl (Same.refl _) (.int _)) (by split <;> decide) fun a e => by
         rw [e]
         split <;> rfl) fun ds e => by rw [e])
       (ev_lst (ea_1 ((e_cat (xs := w'.map pd) (zs := [pd (1, 1)]) (ev_var h6) (ev_lst (ea_1 (e_pair ev_int ev_int)) fun ds e => by rw [e]; exact ⟨by simp, rfl⟩) (by simp; omega)).weak (P := (· = pl (w' ++ [(1, 1)]))) fun d e => by rw [e]; unfold pl; rw [List.map_append]; rfl)) fun ds e => by rw [e]; exact ⟨by simp, rfl⟩)
       fun d e e1 e2 => ⟨_, _, e1, e2, by split <;> simp, rfl⟩
   refine gl_forL (lst rfl) fun ds ed => ⟨fun _ ms => ∃ x9 : Slot, ms = [.d scr, .box b, .d (.int (i : Int)), .d (rl rs), .d (ld p'), .d (ld q'), .d (pl w'), .d (.tuple [ld p', ld q']), .d (exD (builtL w' p' q')), x9, .no, .no], ⟨x9, rfl⟩, ?_, fun ms1 ⟨y, e⟩ => ⟨_, _, _, _, _, _, _, y, e⟩⟩
   rintro k x ms1 hx ⟨y, rfl⟩
   have hfew : ∃ fw : List Q2, x = pl fw ∧ fw.length ≤ 6 ∧ (OkBP (p', q', fw) ∧ OkBL (p', q', fw) ∧ builtP fw p' q' = builtL fw p' q') := by
     subst ed
     have hm := List.mem_of_getElem? hx
     rcases List.mem_append.mp hm with hm | hm
     · split at hm
       · rw [List.mem_singleton.mp hm]
         exact ⟨_, rfl, by rw [List.length_dropLast]; omega, R1⟩
       · cases hm
     · rw [List.mem_singleton.mp hm]
       exact ⟨_, rfl, by rw [List.length_append]; simp; omega, R2⟩
   obtain ⟨fw, rfl, fl, f1, f2, f3⟩ := hfew
   refine gl_ifLam (n := 5) (d := exD (builtL fw p' q')) (fun ps σ H c Q k => evL_lam (p := p') (q := q') (ws := fw) Df.org.2 (fun _ => rfl) (ea_2 (ev_var (i := 7) rfl) (ev_var (i := 9) rfl)) f1 ps σ H c Q fun v H' d e => k v H' d (by rw [e, f3])) (ca_X aBL_inj (a := (p', q', fw)) (ea_3 (ev_var (i := 4) rfl) (ev_var (i := 5) rfl) (ev_var (i := 9) rfl)) f2) (like_ex (by omega)) ⟨_, rfl⟩
  obtain ⟨t, ht, q⟩ := body
  exact ⟨t, ht.nox, q⟩
end
end Ct
namespace Ct
open PySem PySem.Spec PyProof.Rows L2 He LamX

def topNames : List (Nat × Str) := ([(22, "shared_by"), (24, "plus"), (25, "less"), (26, "times"), (27, "over"), (31, "summed"), (32, "off"), (33, "mate"), (34, "made"), (35, "often"), (36, "weight"), (38, "entry"), (39, "rest_by"), (40, "first_arrow"), (41, "split_by"), (42, "without_first")] : List (Nat × Str)) ++ (([
    (45, "_law_low"), (46, "_law_less"), (47, "_law_off"), (48, "_law_by"), (49, "_law_often"), (50, "_law_plus"), (51, "_law_weight"), (52, "_law_sum"), (53, "_law_made"), (54, "_law_mate"), (55, "_law_per"), (56, "_law_at"), (57, "_law_corners"), (58, "_law_draw"), (59, "_law_of"), (60, "_law_small"), (61, "_law_spot")] : List (Nat × Str)) ++ ([
    (62, "_law_shuffled"), (63, "_law_box"), (64, "_law_names"), (65, "_law_arrow"), (66, "_law_rods"), (67, "_law_whole"), (68, "_law_tried"), (69, "_law_like"), (70, "_law_parted_rest"), (71, "_law_front"), (72, "_law_taken"), (73, "_law_built"), (74, "_law_bent_whole")] : List (Nat × Str)))
/-! ### all defs from what the module holds -/
structure Txt (K : PySem.W.Frag) (mg : Str → Option Value) (fI : Addr) : Prop where
  d : ∀ (i : Nat) (x : Str), (i, x) ∈ topNames → IsDef K mg x (topS i)
  part : IsDefD K mg "part" sPart [.int 1] []
  built : IsDefD K mg "built" s_built [] [("start", .ref (ga K "ORIGIN"))]
  none : ∀ x ∈ [("len" : Str), "list", "range", "int", "abs", "max", "enumerate", "isinstance", "all", "tuple", "bool", "str"], mg x = none
  zero : Con1 K mg "ZERO" (pd (0, 1))
  one : Con1 K mg "ONE" (pd (1, 1))
  origin : Con1 K mg "ORIGIN" (ad org)
  lone : Con1 K mg "LONE" (ad lone)
  ub : UbC K mg fI
  tr : TrC K mg
section
variable {P : Program} {w : World} {K : PySem.W.Frag} {mg : Str → Option Value} {base : Heap} {fI : Addr}
theorem defs_of (T : Txt K mg fI) (St : Still P base) : Defs P w K mg base fI := by
  have ml := T.none "len" (by simp)
  have mi := T.none "list" (by simp)
  have mr := T.none "range" (by simp)
  have mt := T.none "int" (by simp)
  have mab := T.none "abs" (by simp)
  have mmx := T.none "max" (by simp)
  have men := T.none "enumerate" (by simp)
  have mis := T.none "isinstance" (by simp)
  have mal := T.none "all" (by simp)
  have mtu := T.none "tuple" (by simp)
  have mbo := T.none "bool" (by simp)
  have mst := T.none "str" (by simp)
  have k_sh := ok_shared_by (P := P) (w := w) (base := base) (T.d 22 "shared_by" (by simp [topNames]))
  have k_part := ok_part (P := P) (w := w) T.part St mab k_sh
  have k_plus := ok_plus (T.d 24 "plus" (by simp [topNames])) k_part
  have k_less := ok_less (T.d 25 "less" (by simp [topNames])) k_part
  have k_times := ok_times (T.d 26 "times" (by simp [topNames])) k_part
  have k_over := ok_over (T.d 27 "over" (by simp [topNames])) k_part
  have k_summed := ok_summed (T.d 31 "summed" (by simp [topNames])) k_plus
  have k_off := ok_off (T.d 32 "off" (by simp [topNames])) k_less
  have k_mate := ok_mate (T.d 33 "mate" (by simp [topNames])) k_less T.zero
  have k_made := ok_made (T.d 34 "made" (by simp [topNames])) k_plus k_times k_less
  have k_often := ok_often (T.d 35 "often" (by simp [topNames])) k_times
  have k_weight := ok_weight (T.d 36 "weight" (by simp [topNames])) k_plus k_times
  have k_entry := ok_entry (P := P) (w := w) (base := base) (T.d 38 "entry" (by simp [topNames])) ml T.origin
  have k_rest := ok_rest (T.d 39 "rest_by" (by simp [topNames])) men T.origin T.one T.zero k_summed k_often k_less k_times
  have k_first := ok_first (T.d 40 "first_arrow" (by simp [topNames])) T.origin T.one T.zero k_rest k_plus k_weight k_summed k_made k_mate k_often k_off k_over
  have k_split := ok_split (T.d 41 "split_by" (by simp [topNames])) ml mi k_off k_often
  have k_wof := ok_wof (T.d 42 "without_first" (by simp [topNames])) ml mr k_entry k_summed k_made k_mate k_off k_split
  have k_built := ok_built (w := w) T.built T.ub ml mi men T.lone k_summed k_first k_wof
  have l_low := ok_low (P := P) (w := w) (T.d 45 "_law_low" (by simp [topNames])) St mab
  have l_less := ok_l_less (T.d 46 "_law_less" (by simp [topNames])) l_low
  have l_off := ok_l_off (T.d 47 "_law_off" (by simp [topNames])) l_less
  have l_by := ok_l_times (T.d 48 "_law_by" (by simp [topNames])) l_low
  have l_often := ok_l_often (T.d 49 "_law_often" (by simp [topNames])) l_by
  have l_plus := ok_l_plus (T.d 50 "_law_plus" (by simp [topNames])) l_low
  have l_weight := ok_l_weight (T.d 51 "_law_weight" (by simp [topNames])) l_plus l_by
  have l_sum := ok_l_summed (T.d 52 "_law_sum" (by simp [topNames])) l_plus
  have l_made := ok_l_made (T.d 53 "_law_made" (by simp [topNames])) l_plus l_by l_less
  have l_mate := ok_l_mate (P := P) (w := w) (base := base) (T.d 54 "_law_mate" (by simp [topNames]))
  have l_per := ok_l_over (T.d 55 "_law_per" (by simp [topNames])) l_low
  have l_at := ok_l_at (P := P) (w := w) (base := base) (T.d 56 "_law_at" (by simp [topNames])) ml
  have l_corners := ok_l_corners (T.d 57 "_law_corners" (by simp [topNames])) l_sum
  have l_draw := ok_l_draw (P := P) (w := w) (base := base) (T.d 58 "_law_draw" (by simp [topNames])) ml mmx
  have l_of := ok_l_of (T.d 59 "_law_of" (by simp [topNames])) ml l_draw
  have l_small := ok_l_small (T.d 60 "_law_small" (by simp [topNames])) l_low l_draw l_of
  have l_spot := ok_l_spot (T.d 61 "_law_spot" (by simp [topNames])) l_small
  have l_shuf := ok_l_shuf (T.d 62 "_law_shuffled" (by simp [topNames])) ml mi mr l_draw
  have l_box := ok_l_box (P := P) (w := w) (base := base) (T.d 63 "_law_box" (by simp [topNames])) mi
  have l_names := ok_l_names (T.d 64 "_law_names" (by simp [topNames])) ml mr l_draw l_of
  have l_arrow := ok_l_arrow (T.d 65 "_law_arrow" (by simp [topNames])) l_draw l_of l_spot
  have l_rods := ok_l_rods (T.d 66 "_law_rods" (by simp [topNames])) ml l_draw l_names l_arrow
  have l_whole := ok_l_whole (T.d 67 "_law_whole" (by simp [topNames])) ml mr l_at l_sum l_made l_mate l_off
  have lk := T.d 69 "_law_like" (by simp [topNames])
  have l_like0 := ok_like0 (P := P) (w := w) (base := base) lk
  have l_like1 := ok_like1 (n := 0) lk ml mr mis mal mi mtu mbo mt mst l_like0
  have l_like2 := ok_like1 (n := 1) lk ml mr mis mal mi mtu mbo mt mst l_like1
  have l_like3 := ok_like1 (n := 2) lk ml mr mis mal mi mtu mbo mt mst l_like2
  have l_like4 := ok_like1 (n := 3) lk ml mr mis mal mi mtu mbo mt mst l_like3
  have l_like5 := ok_like1 (n := 4) lk ml mr mis mal mi mtu mbo mt mst l_like4
  have l_prest := ok_l_prest (T.d 70 "_law_parted_rest" (by simp [topNames])) ml mi l_off l_often
  have l_front := ok_l_front (T.d 71 "_law_front" (by simp [topNames])) l_prest l_plus l_weight l_sum l_made l_mate l_often l_off l_per
  have l_taken := ok_l_taken (T.d 72 "_law_taken" (by simp [topNames])) ml mi l_off l_often
  have l_built := ok_l_built (T.d 73 "_law_built" (by simp [topNames])) ml mr l_at l_sum l_made l_mate l_off l_front l_taken l_corners
  have l_bent := ok_l_bent (T.d 74 "_law_bent_whole" (by simp [topNames])) ml l_draw l_spot l_shuf l_often
  exact ⟨l_box, l_rods, l_whole, l_bent, l_weight, l_like5, l_built, k_built, T.d 68 "_law_tried" (by simp [topNames]), T.origin, T.tr, T.ub, ml, mi, mr, mt⟩
end
end Ct
namespace Ct
open PySem PySem.Spec PyProof.Rows L2 He LamX

/-! ### the head's facts -/
/-- an exception's class with its own __init__ -/
def oexB (K : PySem.W.Frag) (C : Addr) : Bool := (match K.lookup C with
  | some ⟨.type t, _, .cls cd, sl⟩ => decide (t = "type") && (match cd.mro, sl.toList with
    | .ref c0 :: bm, [_, _, _, _, some (.builtin n), _] => decide (c0 = C) && (decide (n = "ValueError.__new__") && (!cd.hasDel && (cd.hasDict && HandSPX.refsVE bm)))
    | _, _ => false)
  | _ => false) && (eqO (PySem.W.findIn K (.ref C) "__setattr__") (some (some (.builtin "object.__setattr__"))) && (decide (PySem.W.subIn K (.ref C) (.type "BaseException") = some true) && (decide (PySem.W.typeIn K (.ref C) = some (.type "type")) && PySem.W.keepIn K (.ref C))))
theorem oexB_ok {K : PySem.W.Frag} {C : Addr} (h : oexB K C = true) : OexC K C := by
  obtain ⟨h1, h2⟩ := ba h
  obtain ⟨h3, h4⟩ := ba h2
  obtain ⟨h5, h6⟩ := ba h4
  obtain ⟨h7, h8⟩ := ba h6
  refine ⟨?_, eqO_ok h3, of_decide_eq_true h5, of_decide_eq_true h7, h8⟩
  split at h1
  · rename_i t dd cd sl ho
    obtain ⟨k1, k2⟩ := ba h1
    split at k2
    · rename_i c0 bm s0 s1 s2 s3 n s5 hm hs
      obtain ⟨j1, j2⟩ := ba k2
      obtain ⟨j3, j4⟩ := ba j2
      obtain ⟨j5, j6⟩ := ba j4
      obtain ⟨j7, j8⟩ := ba j6
      have e1 : t = "type" := of_decide_eq_true k1
      have e2 : c0 = C := of_decide_eq_true j1
      have e3 : n = "ValueError.__new__" := of_decide_eq_true j3
      have e4 : cd.hasDel = false := by simpa using j5
      obtain ⟨nm, bs, mro, ns, qn, hd, sn, sub, ab, col, hdel⟩ := cd
      simp only at hm e4 j7 hs
      subst hm e4 j7 e1 e2 e3
      have e5 : sl = #[s0, s1, s2, s3, some (.builtin "ValueError.__new__"), s5] := by
        rw [← Array.toList_inj, hs]
      exact ⟨nm, qn, ns, bs, bm, sn, sub, ab, col, dd, s0, s1, s2, s3, s5, by rw [ho, e5], j8⟩
    · cases k2
  · cases h1
/-- what is asked beyond the names and the defs -/
def exB (K : PySem.W.Frag) : Bool := oexB K (ga K "Unbuilt") && (decide (PySem.W.typeIn K (.ref (ma K (ga K "Unbuilt") "__init__")) = some (.type "function")) && (xfB K (ga K "Unbuilt") &&
  (tupB K "ZERO" [.int 0, .int 1] && (tupB K "ONE" [.int 1, .int 1] && (tupB K "ORIGIN" [.glo "ZERO", .glo "ZERO"] && (tupB K "LONE" [.glo "ONE", .glo "ZERO"] &&
  (PySem.W.nsOkIn K cStatics && (eqO (PySem.W.nsIn K cStatics "sys.audit-hooks") (some none) && (eqO (PySem.W.nsIn K cStatics "sys.dict") (some none) &&
  (PySem.W.nsOkIn K sysModules && eqO (PySem.W.nsIn K sysModules "_pylong") (some none)))))))))))
/-- the addresses that are looked at: the interpreter's own two tables, and what the globals reach -/
def refS (g : Addr → Option Obj) (as : List Addr) : List Addr := as.flatMap fun a => match g a with
  | some o => refsD o
  | none => []
def asS (g : Addr → Option Obj) (n : Nat) : List Addr := cStatics :: sysModules :: mainGlobals :: (refS g [mainGlobals] ++ (refS g (refS g [mainGlobals]) ++ (refS g (refS g (refS g [mainGlobals])) ++ refS g (refS g (refS g (refS g [mainGlobals]))))))
def obS (n : Nat) (fa : List Fa) (fn : List DefD) (tf : List Defn) (g : Addr → Option Obj) : AlX :=
  (obsT fa fn [] (frT g (asS g n)), exB (frT g (asS g n)) && tabsB g tf (frT g (asS g n)))
theorem saysS_of {n : Nat} {fa : List Fa} {fn : List DefD} {tf : List Defn} {w : World} {h : Heap} (e : obS n fa fn tf h.get? = valX fn [] w) : SaysX fa fn [] tf exB w h (frT h.get? (asS h.get? n)) := by
  have e1 : obsT fa fn [] (frT h.get? (asS h.get? n)) = valT fn [] w := congrArg (fun z : AlX => z.1) e
  have e2 : (exB (frT h.get? (asS h.get? n)) && tabsB h.get? tf (frT h.get? (asS h.get? n))) = true := congrArg (fun z : AlX => z.2) e
  obtain ⟨h1, h2⟩ := ba e2
  have at_ : ∀ p ∈ tf, PySem.W.codeHdIn (frT h.get? (asS h.get? n)) (cT (frT h.get? (asS h.get? n)) p).1 (cT (frT h.get? (asS h.get? n)) p).2 = true ∧ ∃ o : Obj, emptyTab o = true ∧ h.get? (cT (frT h.get? (asS h.get? n)) p).2 = some o := fun p hp => by
    obtain ⟨a1, a2⟩ := ba (List.all_eq_true.mp h2 p hp)
    refine ⟨a1, ?_⟩
    split at a2
    · rename_i o ho
      exact ⟨o, a2, ho⟩
    · cases a2
  refine ⟨e1, h1, fun p hp => (at_ p hp).1, fun p hp => ?_, fun p hp => ?_⟩
  · obtain ⟨_, o, o1, o2⟩ := at_ p hp
    exact frT_none o2 o1
  · obtain ⟨_, o, o1, o2⟩ := at_ p hp
    rw [o2, emptyTab_eq o1]
def hookS (n : Nat) (fa : List Fa) (fn : List DefD) (tf : List Defn) : PySem.W.Hook where
  α := AlX
  obs := fun s => obS n fa fn tf s.heap.get?
  val := fun w => valX fn [] w
  says := fun w h => ∃ K : PySem.W.Frag, K.In h ∧ SaysX fa fn [] tf exB w h K
  of := fun _ _ e => ⟨frT _ _, frT_in, saysS_of e⟩
  keeps := fun _ _ _ hh k => by
    obtain ⟨K, hK, c⟩ := hh
    exact ⟨K, PySem.W.Frag.In.keeps hK k, ⟨c.t, c.more, c.hd, c.out, fun p hp => k _ _ (c.empty p hp)⟩⟩
/-! ### this program's facts -/
def dOf (q : Nat × Str) : DefD := ⟨(q.2, none), q.2, q.2, defArgs (topS q.1), defBody (topS q.1), defScope (topS q.1), [], []⟩
def dPart : DefD := ⟨("part", none), "part", "part", defArgs sPart, defBody sPart, defScope sPart, [.int 1], []⟩
def dBuilt : DefD := ⟨("built", none), "built", "built", defArgs s_built, defBody s_built, defScope s_built, [], [("start", .glo "ORIGIN")]⟩
def dUb : DefD := ⟨("Unbuilt", some "__init__"), "__init__", qUbI, defArgs sUbI, defBody sUbI, defScope sUbI, [], []⟩
def dLaw : DefD := ⟨("law", none), "law", "law", defArgs s_law, defBody s_law, defScope s_law, [], []⟩
def fnS : List DefD := dLaw :: dPart :: dBuilt :: dUb :: topNames.map dOf
def clsS : List Str := ["BadName", "Twice", "Taken", "InUse", "NoRow", "NoWatch", "Nought", "BadCorner", "Flat", "BadText"]
def freeS : List Str := ["len", "list", "range", "int", "abs", "max", "enumerate", "isinstance", "all", "tuple", "bool", "str"]
def faS : List Fa := [.glo "law", .glo "part", .glo "built", .glo "Unbuilt", .glo "ZERO", .glo "ONE", .glo "ORIGIN", .glo "LONE", .noat "Unbuilt" "called", .noat "Unbuilt" "at", .meth "Unbuilt" "__init__", .exm "Unbuilt" "Unbuilt" true] ++
  (topNames.map fun q => Fa.glo q.2) ++ (clsS.map Fa.glo) ++ (clsS.map fun x => Fa.exm "Unbuilt" x false) ++ freeS.map Fa.free
abbrev tfS : List Defn := [("law", none)]
abbrev rowC : PySem.W.OpenRow := PySem.W.OpenLaw.row PySem.Challenge.rw_cornertrade_k19_wholes_of_no_row
abbrev hkC : PySem.W.Hook := hookS 4 faS fnS tfS
def obC (s : PySem.W.SharedT) : AlX := obS 4 faS fnS tfS (HandSHeadRun.getT s)
theorem obC_eq (s : PySem.W.SharedT) : obC s = hkC.obs s.abs := by
  have e : HandSHeadRun.getT s = s.abs.heap.get? := funext (HandSHeadRun.getT_eq s)
  show obS 4 faS fnS tfS (HandSHeadRun.getT s) = obS 4 faS fnS tfS s.abs.heap.get?
  rw [e]
def looseC : List Str := (["__name__", "RodError", "Missing", "BadPart", "BadRow", "Folded", "Full", "BadDeed", "Unbuilt", "ZERO", "ONE", "ORIGIN", "LONE", "part", "built"] : List Str) ++ clsS ++ topNames.map fun q => q.2
theorem saidC : rowC.wellSaid = true := by decide +kernel
theorem bareC : rowC.prog.bare := ⟨rfl, rfl, rfl, rfl, rfl, by decide +kernel⟩
theorem runC (w : World) : HandSHeadRun.RunEq rowC (PySem.W.view rowC.prog [75]) hkC obC 6500 looseC w := by
  intro os
  kernel_rfl
end Ct
namespace Ct
open PySem PySem.Spec PyProof.Rows L2 He LamX

section
variable {K : PySem.W.Frag} {h : Heap} {mg : Str → Option Value}
theorem saysD_of {w : World} (c : SaysX faS fnS [] tfS exB w h K) : SaysD faS fnS K := congrArg (fun z : AlT => z.1) c.t
theorem faS_glo {x : Str} (hx : Fa.glo x ∈ faS) (X : K.In h) (G : h.Ns mainGlobals mg) (c : SaysD faS fnS K) : mg x = some (.ref (ga K x)) := glo_ok X G (c.facts hx)
theorem mem_glo {x : Str} (hx : x ∈ topNames.map fun q => q.2) : Fa.glo x ∈ faS := by
  unfold faS
  obtain ⟨q, hq, e⟩ := List.mem_map.mp hx
  exact List.mem_append_left _ (List.mem_append_left _ (List.mem_append_left _ (List.mem_append_right _ (List.mem_map.mpr ⟨q, hq, by rw [e]⟩))))
theorem mem_cls {x : Str} (hx : x ∈ clsS) : Fa.glo x ∈ faS := by
  unfold faS
  exact List.mem_append_left _ (List.mem_append_left _ (List.mem_append_right _ (List.mem_map.mpr ⟨x, hx, rfl⟩)))
theorem mem_exm {x : Str} (hx : x ∈ clsS) : Fa.exm "Unbuilt" x false ∈ faS := by
  unfold faS
  exact List.mem_append_left _ (List.mem_append_right _ (List.mem_map.mpr ⟨x, hx, rfl⟩))
theorem mem_free {x : Str} (hx : x ∈ freeS) : Fa.free x ∈ faS := by
  unfold faS
  exact List.mem_append_right _ (List.mem_map.mpr ⟨x, hx, rfl⟩)
theorem mem_0 {f : Fa} (hx : f ∈ ([.glo "law", .glo "part", .glo "built", .glo "Unbuilt", .glo "ZERO", .glo "ONE", .glo "ORIGIN", .glo "LONE", .noat "Unbuilt" "called", .noat "Unbuilt" "at", .meth "Unbuilt" "__init__", .exm "Unbuilt" "Unbuilt" true] : List Fa)) : f ∈ faS := by
  unfold faS
  exact List.mem_append_left _ (List.mem_append_left _ (List.mem_append_left _ (List.mem_append_left _ hx)))
theorem txt_of {w : World} (X : K.In h) (G : h.Ns mainGlobals mg) (c : SaysX faS fnS [] tfS exB w h K) : Txt K mg (ma K (ga K "Unbuilt") "__init__") := by
  have cd := saysD_of c
  obtain ⟨x1, y1⟩ := ba c.more
  obtain ⟨x2, y2⟩ := ba y1
  obtain ⟨x3, y3⟩ := ba y2
  obtain ⟨x4, y4⟩ := ba y3
  obtain ⟨x5, y5⟩ := ba y4
  obtain ⟨x6, y6⟩ := ba y5
  obtain ⟨x7, y7⟩ := ba y6
  have gl : ∀ {x : Str}, Fa.glo x ∈ faS → mg x = some (.ref (ga K x)) := fun hx => faS_glo hx X G cd
  have dz : ∀ H, Dp K H (.ref (ga K "ZERO")) (pd (0, 1)) := fun H => .tup (tupB_ok x4 H) (.cons (.int 0) (.cons (.int 1) .nil))
  have d1 : ∀ H, Dp K H (.ref (ga K "ONE")) (pd (1, 1)) := fun H => .tup (tupB_ok x5 H) (.cons (.int 1) (.cons (.int 1) .nil))
  have cl : ∀ {x : Str}, x ∈ clsS → ∃ v, mg x = some v ∧ PySem.W.exmOne K (.ref (ga K "Unbuilt")) v = some false := fun hx => ⟨_, gl (mem_cls hx), of_decide_eq_true (cd.facts (mem_exm hx))⟩
  have gu : mg "Unbuilt" = some (.ref (ga K "Unbuilt")) := gl (mem_0 (by simp))
  obtain ⟨m1, m2⟩ := ba (cd.facts (f := .meth "Unbuilt" "__init__") (mem_0 (by simp)))
  refine ⟨fun i x hx => ?_, ?_, ?_, fun x hx => ?_, ⟨gl (mem_0 (by simp)), dz⟩, ⟨gl (mem_0 (by simp)), d1⟩, ⟨gl (mem_0 (by simp)), fun H => .tup (tupB_ok x6 H) (.cons (dz H) (.cons (dz H) .nil))⟩, ⟨gl (mem_0 (by simp)), fun H => .tup (tupB_ok x7 H) (.cons (d1 H) (.cons (dz H) .nil))⟩, ?_, ?_⟩
  · refine ⟨gl (mem_glo (List.mem_map.mpr ⟨(i, x), hx, rfl⟩)), ?_⟩
    have q := cd.defs (d := dOf (i, x)) (by
      unfold fnS
      exact List.mem_cons_of_mem _ (List.mem_cons_of_mem _ (List.mem_cons_of_mem _ (List.mem_cons_of_mem _ (List.mem_map.mpr ⟨(i, x), hx, rfl⟩)))))
    exact q
  · exact ⟨gl (mem_0 (by simp)), cd.defs (d := dPart) (by unfold fnS; simp)⟩
  · exact ⟨gl (mem_0 (by simp)), cd.defs (d := dBuilt) (by unfold fnS; simp)⟩
  · exact free_ok X G (cd.facts (mem_free hx))
  · exact ⟨gu, oexB_ok x1, eqO_ok m1, of_decide_eq_true x2, cd.defs (d := dUb) (by unfold fnS; simp), eqO_ok (cd.facts (f := .noat "Unbuilt" "called") (mem_0 (by simp))), eqO_ok (cd.facts (f := .noat "Unbuilt" "at") (mem_0 (by simp)))⟩
  · exact ⟨cl (by simp [clsS]), cl (by simp [clsS]), cl (by simp [clsS]), cl (by simp [clsS]), cl (by simp [clsS]), cl (by simp [clsS]), cl (by simp [clsS]), cl (by simp [clsS]), cl (by simp [clsS]), ⟨_, gu, of_decide_eq_true (cd.facts (f := .exm "Unbuilt" "Unbuilt" true) (mem_0 (by simp)))⟩, cl (by simp [clsS]), xfB_ok x3⟩
/-- the interpreter is still -/
theorem still_of {P : Program} {base : Heap} {w : World} {c0 Pt : Addr} (hP : P.given.tree = none) (X : K.In base) (G : base.Ns mainGlobals mg) (TB : TabB base mg c0 Pt) (hx : exB K = true) : Still P base := by
  obtain ⟨x1, y1⟩ := ba hx
  obtain ⟨x2, y2⟩ := ba y1
  obtain ⟨x3, y3⟩ := ba y2
  obtain ⟨x4, y4⟩ := ba y3
  obtain ⟨x5, y5⟩ := ba y4
  obtain ⟨x6, y6⟩ := ba y5
  obtain ⟨x7, y7⟩ := ba y6
  obtain ⟨s1, z1⟩ := ba y7
  obtain ⟨s2, z2⟩ := ba z1
  obtain ⟨s3, z3⟩ := ba z2
  obtain ⟨s4, s5⟩ := ba z3
  obtain ⟨bm, ob, b1, b2, b3, b4, b5, b6, b7, b8⟩ := TB.bm
  exact ⟨⟨⟨_, .of_isNs (PySem.W.isNs_of_in X s1), PySem.W.nsMap_none_of_in X s1 (eqO_ok s2), PySem.W.nsMap_none_of_in X s1 (eqO_ok s3)⟩, ⟨_, .of_isNs (PySem.W.isNs_of_in X s4), PySem.W.nsMap_none_of_in X s4 (eqO_ok s5)⟩, ⟨mg, bm, ob, G, b1, b5, b6, b7⟩⟩, hP⟩
end
end Ct
namespace PySem.Challenge
open PySem PySem.W PySem.Calls PyProof.Rows
theorem ct_law (M : Ct.MathOk) (w : World) (mg : Str → Option Value) (fa : Addr) (h : Heap) (Y : Ct.hkC.says w h) (G : h.Ns mainGlobals mg) (hmg : mg ("law" : PySem.Str) = some (.ref fa)) : ∃ K : PySem.W.Frag, K.In h ∧ LamX.LawAtS rw_cornertrade_k19_wholes_of_no_row w K L2.CX0 42 63 "_law_script" mg fa h := by
    obtain ⟨K, KX, c⟩ := Y
    have cd := Ct.saysD_of c
    have ga := Ct.faS_glo (x := "law") (Ct.mem_0 (by simp)) KX G cd
    have efa : fa = He.ga K "law" := by
      have q := hmg.symm.trans ga
      injection q with q
      injection q
    subst efa
    obtain ⟨fd, F⟩ := cd.defs (d := Ct.dLaw) (by unfold Ct.fnS; simp)
    obtain ⟨oc, od, dV, kV, doc, pm, an, cdv, ct, osl, rfl, lk, hcd, hD, hK⟩ := F.ex
    obtain ⟨c0, rfl⟩ := He.codeIn_ref hcd
    have ec : He.codeOf K ("law", none) = c0 := He.codeOf_eq (K := K) (p := ("law", none)) lk rfl
    have T := Ct.txt_of KX G c
    have hb := L2.FunD.bindsA (ps := ["_law_script"]) F fun _ _ _ _ _ _ us hl => match us, hl with | [_], _ => rfl
    refine ⟨K, KX, _, [(c0, He.tabOf K c0)], Ct.spLaw K (He.tabOf K c0), ?_, ?_, ?_, fun s u => hb s [u] rfl, ?_, ?_⟩
    · intro p hp
      have q := c.empty ("law", none) (by simp)
      rw [List.mem_singleton.mp hp]
      unfold He.cT at q
      rw [ec] at q
      exact q
    · intro p hp
      have q := c.out ("law", none) (by simp)
      rw [List.mem_singleton.mp hp]
      unfold He.cT at q
      rw [ec] at q
      exact q
    · intro p hp
      have q := c.hd ("law", none) (by simp)
      rw [List.mem_singleton.mp hp]
      unfold He.cT at q
      rw [ec] at q
      exact PySem.W.codeHd_of_K KX q
    · intro H a ns hl _ hT hS
      refine ⟨a, ns, rfl, hS, fun p hp => ?_, fun _ => rfl⟩
      rw [List.mem_singleton.mp hp]
      exact LamX.TabS.nil (hT _ (List.mem_singleton.mpr rfl))
    · intro base KB GB TB
      have TB0 := TB _ (List.mem_singleton.mpr rfl)
      have T2 : Ct.Txt K mg (He.ma K (He.ga K "Unbuilt") "__init__") := T
      exact Ct.ok_law lk hcd TB0 (Ct.defs_of T2 (Ct.still_of (w := w) (by kernel_rfl) KB GB TB0 c.more)) M
theorem ct_holds (M : Ct.MathOk) : rw_cornertrade_k19_wholes_of_no_row.Holds := by
  w_on; o_law
  refine HandSHeadRun.head_any (r := Ct.rowC) (q := view Ct.rowC.prog [75]) (H := Ct.hkC) (ob := Ct.obC) (M := 6500) (loose := Ct.looseC) (d := HandSHeadRun.topDef Ct.rowC.prog 75) (kwd := []) Ct.obC_eq
    (by kernel_rfl) (fun s => by kernel_rfl) Ct.runC (by kernel_rfl) (by kernel_rfl) (by kernel_rfl) (by rfl) Ct.saidC (by decide +kernel) Ct.bareC ?hw ?hc
  case hw => w_witness2
  case hc =>
    refine LamX.walk_ofTsE (l := rw_cornertrade_k19_wholes_of_no_row) (n := 63) (k := 42) (x := "_law_script") (CX := fun _ => L2.CX0) rfl (by decide) (by kernel_rfl) ⟨rfl, by decide, by decide⟩ ?F (fun _ _ _ _ _ z => z)
    intro w mg fa h Y G hmg0
    have hmg : mg ("law" : PySem.Str) = some (.ref fa) := by
      have e : (HandSHeadRun.topDef Ct.rowC.prog 75).name = ("law" : PySem.Str) := by kernel_rfl
      rw [← e]
      exact hmg0
    exact ct_law M w mg fa h Y G hmg
end PySem.Challenge
theorem PySem.Challenge.cw_cornertrade_k19_wholes_of_no_row_holds : PySem.Challenge.rw_cornertrade_k19_wholes_of_no_row.Holds := by
  exact PySem.Challenge.ct_holds Ct.math_ok
