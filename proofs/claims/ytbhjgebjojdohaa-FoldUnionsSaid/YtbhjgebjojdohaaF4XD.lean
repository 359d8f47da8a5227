/- Plain programs, written by program (wip/gen/dec.py). -/
import Derived.Test.YtbhjgebjojdohaaF4EB
namespace Go.Proofs.Ytbhjgebjojdohaa
open Go Go.RowKit Go.Eng
set_option maxRecDepth 10000
set_option maxHeartbeats 4000000
set_option linter.unusedVariables false
set_option linter.unusedSimpArgs false
structure pulse_Train where
  Lambda : Int
  Kind : Int
  First : Int
  Second : Int
  Count : Int
  deriving Inhabited, DecidableEq

def pulse_Train.cells (x : pulse_Train) : List Value := [.int .i64 x.Lambda, .int .i64 x.Kind, .int .i64 x.First, .int .i64 x.Second, .int .i64 x.Count]
theorem pulse_Train.cells_len (x : pulse_Train) : (pulse_Train.cells x).length = 5 := rfl

structure api_Span where
  Lo : Int
  Hi : Int
  deriving Inhabited, DecidableEq

def api_Span.cells (x : api_Span) : List Value := [.int .i64 x.Lo, .int .i64 x.Hi]
theorem api_Span.cells_len (x : api_Span) : (api_Span.cells x).length = 2 := rfl

structure api_Echo where
  Kind : Int
  Power : api_Span
  Steps : (api_Span × api_Span)
  Spread : Int
  Ratio : api_Span
  Match : api_Span
  Turn : api_Span
  deriving Inhabited, DecidableEq

def api_Echo.cells (x : api_Echo) : List Value := [.int .i64 x.Kind, .int .i64 x.Power.Lo, .int .i64 x.Power.Hi, .int .i64 x.Steps.1.Lo, .int .i64 x.Steps.1.Hi, .int .i64 x.Steps.2.Lo, .int .i64 x.Steps.2.Hi, .int .i64 x.Spread, .int .i64 x.Ratio.Lo, .int .i64 x.Ratio.Hi, .int .i64 x.Match.Lo, .int .i64 x.Match.Hi, .int .i64 x.Turn.Lo, .int .i64 x.Turn.Hi]
theorem api_Echo.cells_len (x : api_Echo) : (api_Echo.cells x).length = 14 := rfl

structure fold_option where
  whole : Int
  speed : api_Span
  deriving Inhabited, DecidableEq

def fold_option.cells (x : fold_option) : List Value := [.int .i64 x.whole, .int .i64 x.speed.Lo, .int .i64 x.speed.Hi]
theorem fold_option.cells_len (x : fold_option) : (fold_option.cells x).length = 3 := rfl

structure fold_Guess where
  Whole : (Int × Int)
  Speed : api_Span
  deriving Inhabited, DecidableEq

def fold_Guess.cells (x : fold_Guess) : List Value := [.int .i64 x.Whole.1, .int .i64 x.Whole.2, .int .i64 x.Speed.Lo, .int .i64 x.Speed.Hi]
theorem fold_Guess.cells_len (x : fold_Guess) : (fold_Guess.cells x).length = 4 := rfl

structure ref02_Train where
  Lambda : Int
  Kind : Int
  First : Int
  Second : Int
  Count : Int
  deriving Inhabited, DecidableEq

def ref02_Train.cells (x : ref02_Train) : List Value := [.int .i64 x.Lambda, .int .i64 x.Kind, .int .i64 x.First, .int .i64 x.Second, .int .i64 x.Count]
theorem ref02_Train.cells_len (x : ref02_Train) : (ref02_Train.cells x).length = 5 := rfl

structure ref03_Guess where
  Whole : (Int × Int)
  Speed : api_Span
  deriving Inhabited, DecidableEq

def ref03_Guess.cells (x : ref03_Guess) : List Value := [.int .i64 x.Whole.1, .int .i64 x.Whole.2, .int .i64 x.Speed.Lo, .int .i64 x.Speed.Hi]
theorem ref03_Guess.cells_len (x : ref03_Guess) : (ref03_Guess.cells x).length = 4 := rfl

def law03_works : Bool := true
/-- Spans whose differences are no overflow. -/
def spB (s : api_Span) : Prop := -4000000000000000000 ≤ s.Lo ∧ s.Lo ≤ 4000000000000000000
instance (s : api_Span) : Decidable (spB s) := by unfold spB; infer_instance
instance : Inhabited {s : api_Span // spB s} := ⟨⟨⟨0, 0⟩, by decide⟩⟩
def spCmp (x y : {s : api_Span // spB s}) : Int := x.val.Lo - y.val.Lo
/-- slices.SortFunc, by where spans begin. -/
def slices_SortFunc100 (F : Nat) (p0 : List api_Span) : Option (List api_Span) :=
  if h : (∀ s ∈ p0, spB s) ∧ p0.length < 4611686018427387904 then some ((sortL spCmp (p0.pmap Subtype.mk h.1)).map Subtype.val) else none

def ref01_Valid (p0 : api_Span) (p1 : Int) (p2 : Int) : Bool :=
  bif (bif (decide (p0.Lo ≤ p0.Hi)) then (decide (p0.Lo ≥ p1)) else false) then (decide (p0.Hi ≤ p2)) else false

def fold_checked_K1 : Option Int :=
  some 0

def fold_checked_B2 (p0 : (List api_Span)) (p1 : Bool) (k2 : (Int → Option Int)) (x34 : Int) : Option Int :=
  bif (decide (x34 < ((p0.length : Nat) : Int))) then ((getI p0 x34).bind fun u36 =>
  bif (bif (bif (decide (u36.Lo > u36.Hi)) then true else (decide (u36.Lo < (-200000)))) then true else (decide (u36.Hi > 200000))) then (some 3) else ((gd (((bif p1 then (decide (x34 > 0)) else false) == true && true)) (ck (x34 - 1)) 0).bind fun x38 =>
  (gd (((bif p1 then (decide (x34 > 0)) else false) == true && true)) (getI p0 x38) default).bind fun u39 =>
  bif (bif (bif p1 then (decide (x34 > 0)) else false) then (decide (u36.Lo ≤ u39.Hi)) else false) then (some 12) else ((ck (x34 + 1)).bind fun x40 =>
  k2 x40))) else (fold_checked_K1)

def fold_checked_L2 (p0 : (List api_Span)) (p1 : Bool) : Nat → Int → Option Int
  | 0, _ => none
  | n + 1, x34 => fold_checked_B2 p0 p1 (fold_checked_L2 p0 p1 n) x34

def fold_checked (F : Nat) (p0 : (List api_Span)) (p1 : Bool) : Option Int :=
  bif (decide (((p0.length : Nat) : Int) > 256)) then (some 9) else (fold_checked_L2 p0 p1 F 0)

def slices_Clone_fold_speeds_api_Span (F : Nat) (p0 : (List api_Span)) : Option (List api_Span) :=
  (apd 16 ([] : List api_Span) p0).bind fun l5 =>
  some l5

def fold_speeds_united_K1 (l102 : (List api_Span)) : Option (List api_Span) :=
  some l102

def fold_speeds_united_K3 (x158 : Int) (k2 : (Int → (List api_Span) → Option (List api_Span))) (l178 : (List api_Span)) : Option (List api_Span) :=
  (ck (x158 + 1)).bind fun x179 =>
  k2 x179 l178

def fold_speeds_united_B2 (y9 : (List api_Span)) (k2 : (Int → (List api_Span) → Option (List api_Span))) (x158 : Int) (l161 : (List api_Span)) : Option (List api_Span) :=
  bif (decide (x158 < ((y9.length : Nat) : Int))) then ((getI y9 x158).bind fun u181 =>
  (gd (((decide (((l161.length : Nat) : Int) > 0)) == true && true)) (ck (((l161.length : Nat) : Int) - 1)) 0).bind fun x183 =>
  (gd (((decide (((l161.length : Nat) : Int) > 0)) == true && true)) (getI l161 x183) default).bind fun u184 =>
  bif (bif (decide (((l161.length : Nat) : Int) > 0)) then (decide (u181.Lo ≤ u184.Hi)) else false) then ((ck (((l161.length : Nat) : Int) - 1)).bind fun x185 =>
  (ck (((l161.length : Nat) : Int) - 1)).bind fun x186 =>
  (getI l161 x186).bind fun u187 =>
  (getI l161 x185).bind fun u188 =>
  (setI l161 x185 (api_Span.mk u188.Lo (if u181.Hi > u187.Hi then u181.Hi else u187.Hi))).bind fun l189 =>
  fold_speeds_united_K3 x158 k2 l189) else ((apd 16 l161 ([u181])).bind fun l191 =>
  fold_speeds_united_K3 x158 k2 l191)) else (fold_speeds_united_K1 l161)

def fold_speeds_united_L2 (y9 : (List api_Span)) : Nat → Int → (List api_Span) → Option (List api_Span)
  | 0, _, _ => none
  | n + 1, x158, l161 => fold_speeds_united_B2 y9 (fold_speeds_united_L2 y9 n) x158 l161

def fold_speeds_united (F : Nat) (p0 : (List api_Span)) : Option (List api_Span) :=
  (slices_Clone_fold_speeds_api_Span F p0).bind fun y5 =>
  (slices_SortFunc100 F y5).bind fun y9 =>
  fold_speeds_united_L2 y9 F 0 ([])

def fold_Union (F : Nat) (p0 : (List api_Span)) : Option ((List api_Span) × Int) :=
  (fold_checked F p0 false).bind fun y4 =>
  bif (y4 != 0) then (some (([] : (List api_Span)), y4)) else ((fold_speeds_united F p0).bind fun y6 =>
  some (y6, 0))

def law03_spans_K1 : Option Bool :=
  some true

def law03_spans_B2 (p0 : (List api_Span)) (p1 : (List api_Span)) (k2 : (Int → Option Bool)) (x27 : Int) : Option Bool :=
  bif (decide (x27 < ((p0.length : Nat) : Int))) then ((getI p0 x27).bind fun u29 =>
  (getI p1 x27).bind fun u30 =>
  bif (!(((u29.Lo : Int) == u30.Lo) && (((u29.Hi : Int) == u30.Hi) && true))) then (some false) else ((ck (x27 + 1)).bind fun x31 =>
  k2 x31)) else (law03_spans_K1)

def law03_spans_L2 (p0 : (List api_Span)) (p1 : (List api_Span)) : Nat → Int → Option Bool
  | 0, _ => none
  | n + 1, x27 => law03_spans_B2 p0 p1 (law03_spans_L2 p0 p1 n) x27

def law03_spans (F : Nat) (p0 : (List api_Span)) (p1 : (List api_Span)) : Option Bool :=
  bif (((p0.length : Nat) : Int) != ((p1.length : Nat) : Int)) then (some false) else (law03_spans_L2 p0 p1 F 0)

def ref03_spans_K1 : Option Int :=
  some 0

def ref03_spans_B2 (p0 : (List api_Span)) (p1 : Bool) (k2 : (Int → Option Int)) (x34 : Int) : Option Int :=
  bif (decide (x34 < ((p0.length : Nat) : Int))) then ((getI p0 x34).bind fun u36 =>
  bif (!(ref01_Valid u36 (-200000) 200000)) then (some 3) else ((gd (((bif p1 then (decide (x34 > 0)) else false) == true && true)) (getI p0 x34) default).bind fun u37 =>
  (gd (((bif p1 then (decide (x34 > 0)) else false) == true && true)) (ck (x34 - 1)) 0).bind fun x38 =>
  (gd (((bif p1 then (decide (x34 > 0)) else false) == true && true)) (getI p0 x38) default).bind fun u39 =>
  bif (bif (bif p1 then (decide (x34 > 0)) else false) then (decide (u37.Lo ≤ u39.Hi)) else false) then (some 12) else ((ck (x34 + 1)).bind fun x40 =>
  k2 x40))) else (ref03_spans_K1)

def ref03_spans_L2 (p0 : (List api_Span)) (p1 : Bool) : Nat → Int → Option Int
  | 0, _ => none
  | n + 1, x34 => ref03_spans_B2 p0 p1 (ref03_spans_L2 p0 p1 n) x34

def ref03_spans (F : Nat) (p0 : (List api_Span)) (p1 : Bool) : Option Int :=
  bif (decide (((p0.length : Nat) : Int) > 256)) then (some 9) else (ref03_spans_L2 p0 p1 F 0)

def ref03_united_K1 (l1310 : (List api_Span)) : Option (List api_Span) :=
  some l1310

def ref03_united_K5 (l2178 : (List api_Span)) (k2 : ((List api_Span) → (List api_Span) → Option (List api_Span))) (x2216 : Int) (x2334 : Int) (l2397 : (List api_Span)) : Option (List api_Span) :=
  (apd 16 l2178 ([(api_Span.mk x2216 x2334)])).bind fun l2399 =>
  k2 l2399 l2397

def ref03_united_K7 (x2441 : Int) (k6 : (Int → (List api_Span) → Option (List api_Span))) (l2454 : (List api_Span)) : Option (List api_Span) :=
  (ck (x2441 + 1)).bind fun x2455 =>
  k6 x2455 l2454

def ref03_united_B6 (l2178 : (List api_Span)) (l2181 : (List api_Span)) (k2 : ((List api_Span) → (List api_Span) → Option (List api_Span))) (x2216 : Int) (x2334 : Int) (k6 : (Int → (List api_Span) → Option (List api_Span))) (x2441 : Int) (l2444 : (List api_Span)) : Option (List api_Span) :=
  bif (decide (x2441 < ((l2181.length : Nat) : Int))) then ((getI l2181 x2441).bind fun u2457 =>
  bif (decide (u2457.Lo > x2334)) then ((getI l2181 x2441).bind fun u2458 =>
  (apd 16 l2444 ([u2458])).bind fun l2460 =>
  ref03_united_K7 x2441 k6 l2460) else (ref03_united_K7 x2441 k6 l2444)) else (ref03_united_K5 l2178 k2 x2216 x2334 l2444)

def ref03_united_L6 (l2178 : (List api_Span)) (l2181 : (List api_Span)) (k2 : ((List api_Span) → (List api_Span) → Option (List api_Span))) (x2216 : Int) (x2334 : Int) : Nat → Int → (List api_Span) → Option (List api_Span)
  | 0, _, _ => none
  | n + 1, x2441, l2444 => ref03_united_B6 l2178 l2181 k2 x2216 x2334 (ref03_united_L6 l2178 l2181 k2 x2216 x2334 n) x2441 l2444

def ref03_united_K4 (F : Nat) (l2178 : (List api_Span)) (l2181 : (List api_Span)) (k2 : ((List api_Span) → (List api_Span) → Option (List api_Span))) (x2216 : Int) (x2334 : Int) : Option (List api_Span) :=
  ref03_united_L6 l2178 l2181 k2 x2216 x2334 F 0 ([])

def ref03_united_K10 (x2568 : Int) (k9 : (Int → Bool → Int → Option (List api_Span))) (x2573 : Int) (c2574 : Bool) : Option (List api_Span) :=
  (ck (x2568 + 1)).bind fun x2575 =>
  k9 x2573 c2574 x2575

def ref03_united_B9 (l2181 : (List api_Span)) (k8 : (Int → Bool → Option (List api_Span))) (k9 : (Int → Bool → Int → Option (List api_Span))) (x2566 : Int) (c2567 : Bool) (x2568 : Int) : Option (List api_Span) :=
  bif (decide (x2568 < ((l2181.length : Nat) : Int))) then ((getI l2181 x2568).bind fun u2577 =>
  (gd (((decide (u2577.Lo ≤ x2566)) == true && true)) (getI l2181 x2568) default).bind fun u2578 =>
  bif (bif (decide (u2577.Lo ≤ x2566)) then (decide (u2578.Hi > x2566)) else false) then ((getI l2181 x2568).bind fun u2579 =>
  ref03_united_K10 x2568 k9 u2579.Hi true) else (ref03_united_K10 x2568 k9 x2566 c2567)) else (k8 x2566 c2567)

def ref03_united_L9 (l2181 : (List api_Span)) (k8 : (Int → Bool → Option (List api_Span))) : Nat → Int → Bool → Int → Option (List api_Span)
  | 0, _, _, _ => none
  | n + 1, x2566, c2567, x2568 => ref03_united_B9 l2181 k8 (ref03_united_L9 l2181 k8 n) x2566 c2567 x2568

def ref03_united_B8 (F : Nat) (l2178 : (List api_Span)) (l2181 : (List api_Span)) (k2 : ((List api_Span) → (List api_Span) → Option (List api_Span))) (x2216 : Int) (k8 : (Int → Bool → Option (List api_Span))) (x2540 : Int) (c2541 : Bool) : Option (List api_Span) :=
  bif c2541 then (ref03_united_L9 l2181 k8 F x2540 false 0) else (ref03_united_K4 F l2178 l2181 k2 x2216 x2540)

def ref03_united_L8 (F : Nat) (l2178 : (List api_Span)) (l2181 : (List api_Span)) (k2 : ((List api_Span) → (List api_Span) → Option (List api_Span))) (x2216 : Int) : Nat → Int → Bool → Option (List api_Span)
  | 0, _, _ => none
  | n + 1, x2540, c2541 => ref03_united_B8 F l2178 l2181 k2 x2216 (ref03_united_L8 F l2178 l2181 k2 x2216 n) x2540 c2541

def ref03_united_K3 (F : Nat) (l2178 : (List api_Span)) (l2181 : (List api_Span)) (k2 : ((List api_Span) → (List api_Span) → Option (List api_Span))) (x2216 : Int) (x2217 : Int) : Option (List api_Span) :=
  ref03_united_L8 F l2178 l2181 k2 x2216 F x2217 true

def ref03_united_K12 (x2602 : Int) (k11 : (Int → Int → Int → Option (List api_Span))) (x2606 : Int) (x2607 : Int) : Option (List api_Span) :=
  (ck (x2602 + 1)).bind fun x2608 =>
  k11 x2606 x2607 x2608

def ref03_united_B11 (F : Nat) (l2178 : (List api_Span)) (l2181 : (List api_Span)) (k2 : ((List api_Span) → (List api_Span) → Option (List api_Span))) (k11 : (Int → Int → Int → Option (List api_Span))) (x2600 : Int) (x2601 : Int) (x2602 : Int) : Option (List api_Span) :=
  bif (decide (x2602 < ((l2181.length : Nat) : Int))) then ((getI l2181 x2602).bind fun u2610 =>
  bif (decide (u2610.Lo < x2600)) then ((getI l2181 x2602).bind fun u2611 =>
  ref03_united_K12 x2602 k11 u2611.Lo u2611.Hi) else (ref03_united_K12 x2602 k11 x2600 x2601)) else (ref03_united_K3 F l2178 l2181 k2 x2600 x2601)

def ref03_united_L11 (F : Nat) (l2178 : (List api_Span)) (l2181 : (List api_Span)) (k2 : ((List api_Span) → (List api_Span) → Option (List api_Span))) : Nat → Int → Int → Int → Option (List api_Span)
  | 0, _, _, _ => none
  | n + 1, x2600, x2601, x2602 => ref03_united_B11 F l2178 l2181 k2 (ref03_united_L11 F l2178 l2181 k2 n) x2600 x2601 x2602

def ref03_united_B2 (F : Nat) (k2 : ((List api_Span) → (List api_Span) → Option (List api_Span))) (l2178 : (List api_Span)) (l2181 : (List api_Span)) : Option (List api_Span) :=
  bif (decide (((l2181.length : Nat) : Int) > 0)) then ((getI l2181 0).bind fun u2183 =>
  ref03_united_L11 F l2178 l2181 k2 F u2183.Lo u2183.Hi 0) else (ref03_united_K1 l2178)

def ref03_united_L2 (F : Nat) : Nat → (List api_Span) → (List api_Span) → Option (List api_Span)
  | 0, _, _ => none
  | n + 1, l2178, l2181 => ref03_united_B2 F (ref03_united_L2 F n) l2178 l2181

def ref03_united (F : Nat) (p0 : (List api_Span)) : Option (List api_Span) :=
  (apd 16 ([] : List api_Span) p0).bind fun l5 =>
  ref03_united_L2 F F ([]) l5

def ref03_Union (F : Nat) (p0 : (List api_Span)) : Option ((List api_Span) × Int) :=
  (ref03_spans F p0 false).bind fun y4 =>
  bif (y4 != 0) then (some (([] : (List api_Span)), y4)) else ((ref03_united F p0).bind fun y6 =>
  some (y6, 0))

def law03_FoldUnions (F : Nat) (p0 : (List api_Span)) : Option Bool :=
  bif (bif (bif (decide (((p0.length : Nat) : Int) > 60)) then (decide (((p0.length : Nat) : Int) ≤ 256)) else false) then true else (decide (((p0.length : Nat) : Int) > 260))) then (some law03_works) else ((fold_Union F p0).bind fun y5 =>
  (ref03_Union F p0).bind fun y9 =>
  (law03_spans F y5.1 y9.1).bind fun y12 =>
  some (bif (bif y12 then (y5.2 == y9.2) else false) then law03_works else false))
end Go.Proofs.Ytbhjgebjojdohaa
