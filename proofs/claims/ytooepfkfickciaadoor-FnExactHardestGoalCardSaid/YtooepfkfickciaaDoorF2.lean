/-
  What is proved here: the functions that the law reaches come to the printed functions, and plain facts of these. Conditions: those that each theorem names; none beyond.
-/
import Derived.Test.YtooepfkfickciaaDoorF1
/- loop.example/g01207/spec.wyAll -/
namespace Ev
open Go Go.Proofs
/-! spec.wyAll -/
@[reducible] def sp_wyAll_j19_L : List (Nat × Sh) := [(2, (.bx 66 (.v tboGrid))), (5, (.o 102 twyNode)), (6, (.o 3 I)), (7, (.v I)), (8, (.v I)), (11, (.v I))]
@[reducible] def sp_wyAll_j17_L : List (Nat × Sh) := [(2, (.bx 66 (.v tboGrid))), (5, (.o 102 twyNode)), (6, (.o 3 I)), (7, (.v I)), (8, (.v I)), (11, (.v I))]
@[reducible] def sp_wyAll_l7_L : List (Nat × Sh) := [(2, (.bx 66 (.v tboGrid))), (5, (.o 102 twyNode)), (6, (.o 3 I)), (7, (.v I)), (8, (.v I))]
@[reducible] def sp_wyAll_l4_L : List (Nat × Sh) := [(2, (.bx 66 (.v tboGrid))), (5, (.o 102 twyNode)), (6, (.o 3 I)), (7, (.v I))]
def sp_wyAll_j19s (_k : Nat) (_g_l4 : tboGrid.in → (List twyNode.in) → (List Int) → Int → Option (List twyNode.in)) (g_l7 : tboGrid.in → (List twyNode.in) → (List Int) → Int → Int → Option (List twyNode.in)) (x2 : tboGrid.in) (x5 : (List twyNode.in)) (x6 : (List Int)) (x7 : Int) (x8 : Int) (x11 : Int) : Option (List twyNode.in) :=
  inb x7 x5.length (
    inb x8 4 (
      g_l7 x2 (x5.set (x7).toNat ((x5.getD (x7).toNat (((0 : Int), (0 : Int), ((0 : Int), (0 : Int), (0 : Int), (0 : Int), (0 : Int), (0 : Int), ()), ()), (0 : Int), (0 : Int), (0 : Int), (0 : Int), (List.replicate 4 (0 : Int)), ())).1, (x5.getD (x7).toNat (((0 : Int), (0 : Int), ((0 : Int), (0 : Int), (0 : Int), (0 : Int), (0 : Int), (0 : Int), ()), ()), (0 : Int), (0 : Int), (0 : Int), (0 : Int), (List.replicate 4 (0 : Int)), ())).2.1, (x5.getD (x7).toNat (((0 : Int), (0 : Int), ((0 : Int), (0 : Int), (0 : Int), (0 : Int), (0 : Int), (0 : Int), ()), ()), (0 : Int), (0 : Int), (0 : Int), (0 : Int), (List.replicate 4 (0 : Int)), ())).2.2.1, (x5.getD (x7).toNat (((0 : Int), (0 : Int), ((0 : Int), (0 : Int), (0 : Int), (0 : Int), (0 : Int), (0 : Int), ()), ()), (0 : Int), (0 : Int), (0 : Int), (0 : Int), (List.replicate 4 (0 : Int)), ())).2.2.2.1, (x5.getD (x7).toNat (((0 : Int), (0 : Int), ((0 : Int), (0 : Int), (0 : Int), (0 : Int), (0 : Int), (0 : Int), ()), ()), (0 : Int), (0 : Int), (0 : Int), (0 : Int), (List.replicate 4 (0 : Int)), ())).2.2.2.2.1, ((x5.getD (x7).toNat (((0 : Int), (0 : Int), ((0 : Int), (0 : Int), (0 : Int), (0 : Int), (0 : Int), (0 : Int), ()), ()), (0 : Int), (0 : Int), (0 : Int), (0 : Int), (List.replicate 4 (0 : Int)), ())).2.2.2.2.2.1.set (x8).toNat x11), (x5.getD (x7).toNat (((0 : Int), (0 : Int), ((0 : Int), (0 : Int), (0 : Int), (0 : Int), (0 : Int), (0 : Int), ()), ()), (0 : Int), (0 : Int), (0 : Int), (0 : Int), (List.replicate 4 (0 : Int)), ())).2.2.2.2.2.2)) x6 x7 (IntKind.i64.wrap (x8 + (1 : Int)))))
def sp_wyAll_j19 (k : Nat) (g_l4 : tboGrid.in → (List twyNode.in) → (List Int) → Int → Option (List twyNode.in)) (g_l7 : tboGrid.in → (List twyNode.in) → (List Int) → Int → Int → Option (List twyNode.in)) : Nat → tboGrid.in → (List twyNode.in) → (List Int) → Int → Int → Int → Option (List twyNode.in)
  | 0, _, _, _, _, _, _ => none
  | _ + 1, x2, x5, x6, x7, x8, x11 => sp_wyAll_j19s k g_l4 g_l7 x2 x5 x6 x7 x8 x11
def sp_wyAll_j17s (_k : Nat) (c_j19 : (tboGrid.in → (List twyNode.in) → (List Int) → Int → Option (List twyNode.in)) → (tboGrid.in → (List twyNode.in) → (List Int) → Int → Int → Option (List twyNode.in)) → tboGrid.in → (List twyNode.in) → (List Int) → Int → Int → Int → Option (List twyNode.in)) (g_l4 : tboGrid.in → (List twyNode.in) → (List Int) → Int → Option (List twyNode.in)) (g_l7 : tboGrid.in → (List twyNode.in) → (List Int) → Int → Int → Option (List twyNode.in)) (x2 : tboGrid.in) (x5 : (List twyNode.in)) (x6 : (List Int)) (x7 : Int) (x8 : Int) (x11 : Int) : Option (List twyNode.in) :=
  inb x11 x5.length (
    inb x7 x5.length (
      if (decide ((x5.getD (x11).toNat (((0 : Int), (0 : Int), ((0 : Int), (0 : Int), (0 : Int), (0 : Int), (0 : Int), (0 : Int), ()), ()), (0 : Int), (0 : Int), (0 : Int), (0 : Int), (List.replicate 4 (0 : Int)), ())).2.1 = (IntKind.i64.wrap ((x5.getD (x7).toNat (((0 : Int), (0 : Int), ((0 : Int), (0 : Int), (0 : Int), (0 : Int), (0 : Int), (0 : Int), ()), ()), (0 : Int), (0 : Int), (0 : Int), (0 : Int), (List.replicate 4 (0 : Int)), ())).2.1 + (1 : Int))))) = true then
        inb x11 x5.length (
          inb x7 x5.length (
            inb x11 x5.length (
              c_j19 g_l4 g_l7 x2 (x5.set (x11).toNat ((x5.getD (x11).toNat (((0 : Int), (0 : Int), ((0 : Int), (0 : Int), (0 : Int), (0 : Int), (0 : Int), (0 : Int), ()), ()), (0 : Int), (0 : Int), (0 : Int), (0 : Int), (List.replicate 4 (0 : Int)), ())).1, (x5.getD (x11).toNat (((0 : Int), (0 : Int), ((0 : Int), (0 : Int), (0 : Int), (0 : Int), (0 : Int), (0 : Int), ()), ()), (0 : Int), (0 : Int), (0 : Int), (0 : Int), (List.replicate 4 (0 : Int)), ())).2.1, (IntKind.i64.wrap ((x5.getD (x11).toNat (((0 : Int), (0 : Int), ((0 : Int), (0 : Int), (0 : Int), (0 : Int), (0 : Int), (0 : Int), ()), ()), (0 : Int), (0 : Int), (0 : Int), (0 : Int), (List.replicate 4 (0 : Int)), ())).2.2.1 + (x5.getD (x7).toNat (((0 : Int), (0 : Int), ((0 : Int), (0 : Int), (0 : Int), (0 : Int), (0 : Int), (0 : Int), ()), ()), (0 : Int), (0 : Int), (0 : Int), (0 : Int), (List.replicate 4 (0 : Int)), ())).2.2.1)), (x5.getD (x11).toNat (((0 : Int), (0 : Int), ((0 : Int), (0 : Int), (0 : Int), (0 : Int), (0 : Int), (0 : Int), ()), ()), (0 : Int), (0 : Int), (0 : Int), (0 : Int), (List.replicate 4 (0 : Int)), ())).2.2.2)) x6 x7 x8 x11)))
      else
        c_j19 g_l4 g_l7 x2 x5 x6 x7 x8 x11))
def sp_wyAll_j17 (k : Nat) (g_l4 : tboGrid.in → (List twyNode.in) → (List Int) → Int → Option (List twyNode.in)) (g_l7 : tboGrid.in → (List twyNode.in) → (List Int) → Int → Int → Option (List twyNode.in)) : Nat → tboGrid.in → (List twyNode.in) → (List Int) → Int → Int → Int → Option (List twyNode.in)
  | 0, _, _, _, _, _, _ => none
  | _ + 1, x2, x5, x6, x7, x8, x11 => sp_wyAll_j17s k (fun g0 g1 => sp_wyAll_j19 k g0 g1 k) g_l4 g_l7 x2 x5 x6 x7 x8 x11
def sp_wyAll_l7s (k : Nat) (c_j17 : (tboGrid.in → (List twyNode.in) → (List Int) → Int → Option (List twyNode.in)) → (tboGrid.in → (List twyNode.in) → (List Int) → Int → Int → Option (List twyNode.in)) → tboGrid.in → (List twyNode.in) → (List Int) → Int → Int → Int → Option (List twyNode.in)) (g_l4 : tboGrid.in → (List twyNode.in) → (List Int) → Int → Option (List twyNode.in)) (g_l7 : tboGrid.in → (List twyNode.in) → (List Int) → Int → Int → Option (List twyNode.in)) (x2 : tboGrid.in) (x5 : (List twyNode.in)) (x6 : (List Int)) (x7 : Int) (x8 : Int) : Option (List twyNode.in) :=
  if (decide (x8 < (4 : Int))) = true then
    inb x7 x5.length (
      inb x8 4 (
        inb x7 (x5.set (x7).toNat ((x5.getD (x7).toNat (((0 : Int), (0 : Int), ((0 : Int), (0 : Int), (0 : Int), (0 : Int), (0 : Int), (0 : Int), ()), ()), (0 : Int), (0 : Int), (0 : Int), (0 : Int), (List.replicate 4 (0 : Int)), ())).1, (x5.getD (x7).toNat (((0 : Int), (0 : Int), ((0 : Int), (0 : Int), (0 : Int), (0 : Int), (0 : Int), (0 : Int), ()), ()), (0 : Int), (0 : Int), (0 : Int), (0 : Int), (List.replicate 4 (0 : Int)), ())).2.1, (x5.getD (x7).toNat (((0 : Int), (0 : Int), ((0 : Int), (0 : Int), (0 : Int), (0 : Int), (0 : Int), (0 : Int), ()), ()), (0 : Int), (0 : Int), (0 : Int), (0 : Int), (List.replicate 4 (0 : Int)), ())).2.2.1, (x5.getD (x7).toNat (((0 : Int), (0 : Int), ((0 : Int), (0 : Int), (0 : Int), (0 : Int), (0 : Int), (0 : Int), ()), ()), (0 : Int), (0 : Int), (0 : Int), (0 : Int), (List.replicate 4 (0 : Int)), ())).2.2.2.1, (x5.getD (x7).toNat (((0 : Int), (0 : Int), ((0 : Int), (0 : Int), (0 : Int), (0 : Int), (0 : Int), (0 : Int), ()), ()), (0 : Int), (0 : Int), (0 : Int), (0 : Int), (List.replicate 4 (0 : Int)), ())).2.2.2.2.1, ((x5.getD (x7).toNat (((0 : Int), (0 : Int), ((0 : Int), (0 : Int), (0 : Int), (0 : Int), (0 : Int), (0 : Int), ()), ()), (0 : Int), (0 : Int), (0 : Int), (0 : Int), (List.replicate 4 (0 : Int)), ())).2.2.2.2.2.1.set (x8).toNat (-1 : Int)), (x5.getD (x7).toNat (((0 : Int), (0 : Int), ((0 : Int), (0 : Int), (0 : Int), (0 : Int), (0 : Int), (0 : Int), ()), ()), (0 : Int), (0 : Int), (0 : Int), (0 : Int), (List.replicate 4 (0 : Int)), ())).2.2.2.2.2.2)).length (
          (sp_boRoll k x2 ((x5.set (x7).toNat ((x5.getD (x7).toNat (((0 : Int), (0 : Int), ((0 : Int), (0 : Int), (0 : Int), (0 : Int), (0 : Int), (0 : Int), ()), ()), (0 : Int), (0 : Int), (0 : Int), (0 : Int), (List.replicate 4 (0 : Int)), ())).1, (x5.getD (x7).toNat (((0 : Int), (0 : Int), ((0 : Int), (0 : Int), (0 : Int), (0 : Int), (0 : Int), (0 : Int), ()), ()), (0 : Int), (0 : Int), (0 : Int), (0 : Int), (List.replicate 4 (0 : Int)), ())).2.1, (x5.getD (x7).toNat (((0 : Int), (0 : Int), ((0 : Int), (0 : Int), (0 : Int), (0 : Int), (0 : Int), (0 : Int), ()), ()), (0 : Int), (0 : Int), (0 : Int), (0 : Int), (List.replicate 4 (0 : Int)), ())).2.2.1, (x5.getD (x7).toNat (((0 : Int), (0 : Int), ((0 : Int), (0 : Int), (0 : Int), (0 : Int), (0 : Int), (0 : Int), ()), ()), (0 : Int), (0 : Int), (0 : Int), (0 : Int), (List.replicate 4 (0 : Int)), ())).2.2.2.1, (x5.getD (x7).toNat (((0 : Int), (0 : Int), ((0 : Int), (0 : Int), (0 : Int), (0 : Int), (0 : Int), (0 : Int), ()), ()), (0 : Int), (0 : Int), (0 : Int), (0 : Int), (List.replicate 4 (0 : Int)), ())).2.2.2.2.1, ((x5.getD (x7).toNat (((0 : Int), (0 : Int), ((0 : Int), (0 : Int), (0 : Int), (0 : Int), (0 : Int), (0 : Int), ()), ()), (0 : Int), (0 : Int), (0 : Int), (0 : Int), (List.replicate 4 (0 : Int)), ())).2.2.2.2.2.1.set (x8).toNat (-1 : Int)), (x5.getD (x7).toNat (((0 : Int), (0 : Int), ((0 : Int), (0 : Int), (0 : Int), (0 : Int), (0 : Int), (0 : Int), ()), ()), (0 : Int), (0 : Int), (0 : Int), (0 : Int), (List.replicate 4 (0 : Int)), ())).2.2.2.2.2.2)).getD (x7).toNat (((0 : Int), (0 : Int), ((0 : Int), (0 : Int), (0 : Int), (0 : Int), (0 : Int), (0 : Int), ()), ()), (0 : Int), (0 : Int), (0 : Int), (0 : Int), (List.replicate 4 (0 : Int)), ())).1 x8).bind fun r2 =>
          if (!r2.2.1) = true then
            g_l7 x2 (x5.set (x7).toNat ((x5.getD (x7).toNat (((0 : Int), (0 : Int), ((0 : Int), (0 : Int), (0 : Int), (0 : Int), (0 : Int), (0 : Int), ()), ()), (0 : Int), (0 : Int), (0 : Int), (0 : Int), (List.replicate 4 (0 : Int)), ())).1, (x5.getD (x7).toNat (((0 : Int), (0 : Int), ((0 : Int), (0 : Int), (0 : Int), (0 : Int), (0 : Int), (0 : Int), ()), ()), (0 : Int), (0 : Int), (0 : Int), (0 : Int), (List.replicate 4 (0 : Int)), ())).2.1, (x5.getD (x7).toNat (((0 : Int), (0 : Int), ((0 : Int), (0 : Int), (0 : Int), (0 : Int), (0 : Int), (0 : Int), ()), ()), (0 : Int), (0 : Int), (0 : Int), (0 : Int), (List.replicate 4 (0 : Int)), ())).2.2.1, (x5.getD (x7).toNat (((0 : Int), (0 : Int), ((0 : Int), (0 : Int), (0 : Int), (0 : Int), (0 : Int), (0 : Int), ()), ()), (0 : Int), (0 : Int), (0 : Int), (0 : Int), (List.replicate 4 (0 : Int)), ())).2.2.2.1, (x5.getD (x7).toNat (((0 : Int), (0 : Int), ((0 : Int), (0 : Int), (0 : Int), (0 : Int), (0 : Int), (0 : Int), ()), ()), (0 : Int), (0 : Int), (0 : Int), (0 : Int), (List.replicate 4 (0 : Int)), ())).2.2.2.2.1, ((x5.getD (x7).toNat (((0 : Int), (0 : Int), ((0 : Int), (0 : Int), (0 : Int), (0 : Int), (0 : Int), (0 : Int), ()), ()), (0 : Int), (0 : Int), (0 : Int), (0 : Int), (List.replicate 4 (0 : Int)), ())).2.2.2.2.2.1.set (x8).toNat (-1 : Int)), (x5.getD (x7).toNat (((0 : Int), (0 : Int), ((0 : Int), (0 : Int), (0 : Int), (0 : Int), (0 : Int), (0 : Int), ()), ()), (0 : Int), (0 : Int), (0 : Int), (0 : Int), (List.replicate 4 (0 : Int)), ())).2.2.2.2.2.2)) x6 x7 (IntKind.i64.wrap (x8 + (1 : Int)))
          else
            (sp_wyCode k x2 r2.1).bind fun r3 =>
            (sp_wyPlace k x6 r3).bind fun r4 =>
            if (decide (r4 < (0 : Int))) = true then
              inb x7 (x5.set (x7).toNat ((x5.getD (x7).toNat (((0 : Int), (0 : Int), ((0 : Int), (0 : Int), (0 : Int), (0 : Int), (0 : Int), (0 : Int), ()), ()), (0 : Int), (0 : Int), (0 : Int), (0 : Int), (List.replicate 4 (0 : Int)), ())).1, (x5.getD (x7).toNat (((0 : Int), (0 : Int), ((0 : Int), (0 : Int), (0 : Int), (0 : Int), (0 : Int), (0 : Int), ()), ()), (0 : Int), (0 : Int), (0 : Int), (0 : Int), (List.replicate 4 (0 : Int)), ())).2.1, (x5.getD (x7).toNat (((0 : Int), (0 : Int), ((0 : Int), (0 : Int), (0 : Int), (0 : Int), (0 : Int), (0 : Int), ()), ()), (0 : Int), (0 : Int), (0 : Int), (0 : Int), (List.replicate 4 (0 : Int)), ())).2.2.1, (x5.getD (x7).toNat (((0 : Int), (0 : Int), ((0 : Int), (0 : Int), (0 : Int), (0 : Int), (0 : Int), (0 : Int), ()), ()), (0 : Int), (0 : Int), (0 : Int), (0 : Int), (List.replicate 4 (0 : Int)), ())).2.2.2.1, (x5.getD (x7).toNat (((0 : Int), (0 : Int), ((0 : Int), (0 : Int), (0 : Int), (0 : Int), (0 : Int), (0 : Int), ()), ()), (0 : Int), (0 : Int), (0 : Int), (0 : Int), (List.replicate 4 (0 : Int)), ())).2.2.2.2.1, ((x5.getD (x7).toNat (((0 : Int), (0 : Int), ((0 : Int), (0 : Int), (0 : Int), (0 : Int), (0 : Int), (0 : Int), ()), ()), (0 : Int), (0 : Int), (0 : Int), (0 : Int), (List.replicate 4 (0 : Int)), ())).2.2.2.2.2.1.set (x8).toNat (-1 : Int)), (x5.getD (x7).toNat (((0 : Int), (0 : Int), ((0 : Int), (0 : Int), (0 : Int), (0 : Int), (0 : Int), (0 : Int), ()), ()), (0 : Int), (0 : Int), (0 : Int), (0 : Int), (List.replicate 4 (0 : Int)), ())).2.2.2.2.2.2)).length (
                if (x5.set (x7).toNat ((x5.getD (x7).toNat (((0 : Int), (0 : Int), ((0 : Int), (0 : Int), (0 : Int), (0 : Int), (0 : Int), (0 : Int), ()), ()), (0 : Int), (0 : Int), (0 : Int), (0 : Int), (List.replicate 4 (0 : Int)), ())).1, (x5.getD (x7).toNat (((0 : Int), (0 : Int), ((0 : Int), (0 : Int), (0 : Int), (0 : Int), (0 : Int), (0 : Int), ()), ()), (0 : Int), (0 : Int), (0 : Int), (0 : Int), (List.replicate 4 (0 : Int)), ())).2.1, (x5.getD (x7).toNat (((0 : Int), (0 : Int), ((0 : Int), (0 : Int), (0 : Int), (0 : Int), (0 : Int), (0 : Int), ()), ()), (0 : Int), (0 : Int), (0 : Int), (0 : Int), (List.replicate 4 (0 : Int)), ())).2.2.1, (x5.getD (x7).toNat (((0 : Int), (0 : Int), ((0 : Int), (0 : Int), (0 : Int), (0 : Int), (0 : Int), (0 : Int), ()), ()), (0 : Int), (0 : Int), (0 : Int), (0 : Int), (List.replicate 4 (0 : Int)), ())).2.2.2.1, (x5.getD (x7).toNat (((0 : Int), (0 : Int), ((0 : Int), (0 : Int), (0 : Int), (0 : Int), (0 : Int), (0 : Int), ()), ()), (0 : Int), (0 : Int), (0 : Int), (0 : Int), (List.replicate 4 (0 : Int)), ())).2.2.2.2.1, ((x5.getD (x7).toNat (((0 : Int), (0 : Int), ((0 : Int), (0 : Int), (0 : Int), (0 : Int), (0 : Int), (0 : Int), ()), ()), (0 : Int), (0 : Int), (0 : Int), (0 : Int), (List.replicate 4 (0 : Int)), ())).2.2.2.2.2.1.set (x8).toNat (-1 : Int)), (x5.getD (x7).toNat (((0 : Int), (0 : Int), ((0 : Int), (0 : Int), (0 : Int), (0 : Int), (0 : Int), (0 : Int), ()), ()), (0 : Int), (0 : Int), (0 : Int), (0 : Int), (List.replicate 4 (0 : Int)), ())).2.2.2.2.2.2)).length + ([(r2.1, (IntKind.i64.wrap (((x5.set (x7).toNat ((x5.getD (x7).toNat (((0 : Int), (0 : Int), ((0 : Int), (0 : Int), (0 : Int), (0 : Int), (0 : Int), (0 : Int), ()), ()), (0 : Int), (0 : Int), (0 : Int), (0 : Int), (List.replicate 4 (0 : Int)), ())).1, (x5.getD (x7).toNat (((0 : Int), (0 : Int), ((0 : Int), (0 : Int), (0 : Int), (0 : Int), (0 : Int), (0 : Int), ()), ()), (0 : Int), (0 : Int), (0 : Int), (0 : Int), (List.replicate 4 (0 : Int)), ())).2.1, (x5.getD (x7).toNat (((0 : Int), (0 : Int), ((0 : Int), (0 : Int), (0 : Int), (0 : Int), (0 : Int), (0 : Int), ()), ()), (0 : Int), (0 : Int), (0 : Int), (0 : Int), (List.replicate 4 (0 : Int)), ())).2.2.1, (x5.getD (x7).toNat (((0 : Int), (0 : Int), ((0 : Int), (0 : Int), (0 : Int), (0 : Int), (0 : Int), (0 : Int), ()), ()), (0 : Int), (0 : Int), (0 : Int), (0 : Int), (List.replicate 4 (0 : Int)), ())).2.2.2.1, (x5.getD (x7).toNat (((0 : Int), (0 : Int), ((0 : Int), (0 : Int), (0 : Int), (0 : Int), (0 : Int), (0 : Int), ()), ()), (0 : Int), (0 : Int), (0 : Int), (0 : Int), (List.replicate 4 (0 : Int)), ())).2.2.2.2.1, ((x5.getD (x7).toNat (((0 : Int), (0 : Int), ((0 : Int), (0 : Int), (0 : Int), (0 : Int), (0 : Int), (0 : Int), ()), ()), (0 : Int), (0 : Int), (0 : Int), (0 : Int), (List.replicate 4 (0 : Int)), ())).2.2.2.2.2.1.set (x8).toNat (-1 : Int)), (x5.getD (x7).toNat (((0 : Int), (0 : Int), ((0 : Int), (0 : Int), (0 : Int), (0 : Int), (0 : Int), (0 : Int), ()), ()), (0 : Int), (0 : Int), (0 : Int), (0 : Int), (List.replicate 4 (0 : Int)), ())).2.2.2.2.2.2)).getD (x7).toNat (((0 : Int), (0 : Int), ((0 : Int), (0 : Int), (0 : Int), (0 : Int), (0 : Int), (0 : Int), ()), ()), (0 : Int), (0 : Int), (0 : Int), (0 : Int), (List.replicate 4 (0 : Int)), ())).2.1 + (1 : Int))), (0 : Int), x7, x8, (List.replicate 4 (0 : Int)), ())] : List twyNode.in).length ≤ 17179869184 then (
                  (sp_wyCode k x2 r2.1).bind fun r5 =>
                  if x6.length + ([r5] : List Int).length ≤ 17179869184 then (
                    c_j17 g_l4 g_l7 x2 ((x5.set (x7).toNat ((x5.getD (x7).toNat (((0 : Int), (0 : Int), ((0 : Int), (0 : Int), (0 : Int), (0 : Int), (0 : Int), (0 : Int), ()), ()), (0 : Int), (0 : Int), (0 : Int), (0 : Int), (List.replicate 4 (0 : Int)), ())).1, (x5.getD (x7).toNat (((0 : Int), (0 : Int), ((0 : Int), (0 : Int), (0 : Int), (0 : Int), (0 : Int), (0 : Int), ()), ()), (0 : Int), (0 : Int), (0 : Int), (0 : Int), (List.replicate 4 (0 : Int)), ())).2.1, (x5.getD (x7).toNat (((0 : Int), (0 : Int), ((0 : Int), (0 : Int), (0 : Int), (0 : Int), (0 : Int), (0 : Int), ()), ()), (0 : Int), (0 : Int), (0 : Int), (0 : Int), (List.replicate 4 (0 : Int)), ())).2.2.1, (x5.getD (x7).toNat (((0 : Int), (0 : Int), ((0 : Int), (0 : Int), (0 : Int), (0 : Int), (0 : Int), (0 : Int), ()), ()), (0 : Int), (0 : Int), (0 : Int), (0 : Int), (List.replicate 4 (0 : Int)), ())).2.2.2.1, (x5.getD (x7).toNat (((0 : Int), (0 : Int), ((0 : Int), (0 : Int), (0 : Int), (0 : Int), (0 : Int), (0 : Int), ()), ()), (0 : Int), (0 : Int), (0 : Int), (0 : Int), (List.replicate 4 (0 : Int)), ())).2.2.2.2.1, ((x5.getD (x7).toNat (((0 : Int), (0 : Int), ((0 : Int), (0 : Int), (0 : Int), (0 : Int), (0 : Int), (0 : Int), ()), ()), (0 : Int), (0 : Int), (0 : Int), (0 : Int), (List.replicate 4 (0 : Int)), ())).2.2.2.2.2.1.set (x8).toNat (-1 : Int)), (x5.getD (x7).toNat (((0 : Int), (0 : Int), ((0 : Int), (0 : Int), (0 : Int), (0 : Int), (0 : Int), (0 : Int), ()), ()), (0 : Int), (0 : Int), (0 : Int), (0 : Int), (List.replicate 4 (0 : Int)), ())).2.2.2.2.2.2)) ++ ([(r2.1, (IntKind.i64.wrap (((x5.set (x7).toNat ((x5.getD (x7).toNat (((0 : Int), (0 : Int), ((0 : Int), (0 : Int), (0 : Int), (0 : Int), (0 : Int), (0 : Int), ()), ()), (0 : Int), (0 : Int), (0 : Int), (0 : Int), (List.replicate 4 (0 : Int)), ())).1, (x5.getD (x7).toNat (((0 : Int), (0 : Int), ((0 : Int), (0 : Int), (0 : Int), (0 : Int), (0 : Int), (0 : Int), ()), ()), (0 : Int), (0 : Int), (0 : Int), (0 : Int), (List.replicate 4 (0 : Int)), ())).2.1, (x5.getD (x7).toNat (((0 : Int), (0 : Int), ((0 : Int), (0 : Int), (0 : Int), (0 : Int), (0 : Int), (0 : Int), ()), ()), (0 : Int), (0 : Int), (0 : Int), (0 : Int), (List.replicate 4 (0 : Int)), ())).2.2.1, (x5.getD (x7).toNat (((0 : Int), (0 : Int), ((0 : Int), (0 : Int), (0 : Int), (0 : Int), (0 : Int), (0 : Int), ()), ()), (0 : Int), (0 : Int), (0 : Int), (0 : Int), (List.replicate 4 (0 : Int)), ())).2.2.2.1, (x5.getD (x7).toNat (((0 : Int), (0 : Int), ((0 : Int), (0 : Int), (0 : Int), (0 : Int), (0 : Int), (0 : Int), ()), ()), (0 : Int), (0 : Int), (0 : Int), (0 : Int), (List.replicate 4 (0 : Int)), ())).2.2.2.2.1, ((x5.getD (x7).toNat (((0 : Int), (0 : Int), ((0 : Int), (0 : Int), (0 : Int), (0 : Int), (0 : Int), (0 : Int), ()), ()), (0 : Int), (0 : Int), (0 : Int), (0 : Int), (List.replicate 4 (0 : Int)), ())).2.2.2.2.2.1.set (x8).toNat (-1 : Int)), (x5.getD (x7).toNat (((0 : Int), (0 : Int), ((0 : Int), (0 : Int), (0 : Int), (0 : Int), (0 : Int), (0 : Int), ()), ()), (0 : Int), (0 : Int), (0 : Int), (0 : Int), (List.replicate 4 (0 : Int)), ())).2.2.2.2.2.2)).getD (x7).toNat (((0 : Int), (0 : Int), ((0 : Int), (0 : Int), (0 : Int), (0 : Int), (0 : Int), (0 : Int), ()), ()), (0 : Int), (0 : Int), (0 : Int), (0 : Int), (List.replicate 4 (0 : Int)), ())).2.1 + (1 : Int))), (0 : Int), x7, x8, (List.replicate 4 (0 : Int)), ())] : List twyNode.in)) (x6 ++ ([r5] : List Int)) x7 x8 ((x5.set (x7).toNat ((x5.getD (x7).toNat (((0 : Int), (0 : Int), ((0 : Int), (0 : Int), (0 : Int), (0 : Int), (0 : Int), (0 : Int), ()), ()), (0 : Int), (0 : Int), (0 : Int), (0 : Int), (List.replicate 4 (0 : Int)), ())).1, (x5.getD (x7).toNat (((0 : Int), (0 : Int), ((0 : Int), (0 : Int), (0 : Int), (0 : Int), (0 : Int), (0 : Int), ()), ()), (0 : Int), (0 : Int), (0 : Int), (0 : Int), (List.replicate 4 (0 : Int)), ())).2.1, (x5.getD (x7).toNat (((0 : Int), (0 : Int), ((0 : Int), (0 : Int), (0 : Int), (0 : Int), (0 : Int), (0 : Int), ()), ()), (0 : Int), (0 : Int), (0 : Int), (0 : Int), (List.replicate 4 (0 : Int)), ())).2.2.1, (x5.getD (x7).toNat (((0 : Int), (0 : Int), ((0 : Int), (0 : Int), (0 : Int), (0 : Int), (0 : Int), (0 : Int), ()), ()), (0 : Int), (0 : Int), (0 : Int), (0 : Int), (List.replicate 4 (0 : Int)), ())).2.2.2.1, (x5.getD (x7).toNat (((0 : Int), (0 : Int), ((0 : Int), (0 : Int), (0 : Int), (0 : Int), (0 : Int), (0 : Int), ()), ()), (0 : Int), (0 : Int), (0 : Int), (0 : Int), (List.replicate 4 (0 : Int)), ())).2.2.2.2.1, ((x5.getD (x7).toNat (((0 : Int), (0 : Int), ((0 : Int), (0 : Int), (0 : Int), (0 : Int), (0 : Int), (0 : Int), ()), ()), (0 : Int), (0 : Int), (0 : Int), (0 : Int), (List.replicate 4 (0 : Int)), ())).2.2.2.2.2.1.set (x8).toNat (-1 : Int)), (x5.getD (x7).toNat (((0 : Int), (0 : Int), ((0 : Int), (0 : Int), (0 : Int), (0 : Int), (0 : Int), (0 : Int), ()), ()), (0 : Int), (0 : Int), (0 : Int), (0 : Int), (List.replicate 4 (0 : Int)), ())).2.2.2.2.2.2)).length : Int)) else none) else none)
            else
              c_j17 g_l4 g_l7 x2 (x5.set (x7).toNat ((x5.getD (x7).toNat (((0 : Int), (0 : Int), ((0 : Int), (0 : Int), (0 : Int), (0 : Int), (0 : Int), (0 : Int), ()), ()), (0 : Int), (0 : Int), (0 : Int), (0 : Int), (List.replicate 4 (0 : Int)), ())).1, (x5.getD (x7).toNat (((0 : Int), (0 : Int), ((0 : Int), (0 : Int), (0 : Int), (0 : Int), (0 : Int), (0 : Int), ()), ()), (0 : Int), (0 : Int), (0 : Int), (0 : Int), (List.replicate 4 (0 : Int)), ())).2.1, (x5.getD (x7).toNat (((0 : Int), (0 : Int), ((0 : Int), (0 : Int), (0 : Int), (0 : Int), (0 : Int), (0 : Int), ()), ()), (0 : Int), (0 : Int), (0 : Int), (0 : Int), (List.replicate 4 (0 : Int)), ())).2.2.1, (x5.getD (x7).toNat (((0 : Int), (0 : Int), ((0 : Int), (0 : Int), (0 : Int), (0 : Int), (0 : Int), (0 : Int), ()), ()), (0 : Int), (0 : Int), (0 : Int), (0 : Int), (List.replicate 4 (0 : Int)), ())).2.2.2.1, (x5.getD (x7).toNat (((0 : Int), (0 : Int), ((0 : Int), (0 : Int), (0 : Int), (0 : Int), (0 : Int), (0 : Int), ()), ()), (0 : Int), (0 : Int), (0 : Int), (0 : Int), (List.replicate 4 (0 : Int)), ())).2.2.2.2.1, ((x5.getD (x7).toNat (((0 : Int), (0 : Int), ((0 : Int), (0 : Int), (0 : Int), (0 : Int), (0 : Int), (0 : Int), ()), ()), (0 : Int), (0 : Int), (0 : Int), (0 : Int), (List.replicate 4 (0 : Int)), ())).2.2.2.2.2.1.set (x8).toNat (-1 : Int)), (x5.getD (x7).toNat (((0 : Int), (0 : Int), ((0 : Int), (0 : Int), (0 : Int), (0 : Int), (0 : Int), (0 : Int), ()), ()), (0 : Int), (0 : Int), (0 : Int), (0 : Int), (List.replicate 4 (0 : Int)), ())).2.2.2.2.2.2)) x6 x7 x8 r4)))
  else
    g_l4 x2 x5 x6 (IntKind.i64.wrap (x7 + (1 : Int)))
def sp_wyAll_l7 (k : Nat) (g_l4 : tboGrid.in → (List twyNode.in) → (List Int) → Int → Option (List twyNode.in)) : Nat → tboGrid.in → (List twyNode.in) → (List Int) → Int → Int → Option (List twyNode.in)
  | 0, _, _, _, _, _ => none
  | n + 1, x2, x5, x6, x7, x8 => sp_wyAll_l7s k (fun g0 g1 => sp_wyAll_j17 k g0 g1 k) g_l4 (sp_wyAll_l7 k g_l4 n) x2 x5 x6 x7 x8
def sp_wyAll_l4s (_k : Nat) (c_l7 : (tboGrid.in → (List twyNode.in) → (List Int) → Int → Option (List twyNode.in)) → tboGrid.in → (List twyNode.in) → (List Int) → Int → Int → Option (List twyNode.in)) (g_l4 : tboGrid.in → (List twyNode.in) → (List Int) → Int → Option (List twyNode.in)) (x2 : tboGrid.in) (x5 : (List twyNode.in)) (x6 : (List Int)) (x7 : Int) : Option (List twyNode.in) :=
  if (decide (x7 < (x5.length : Int))) = true then
    c_l7 g_l4 x2 x5 x6 x7 (0 : Int)
  else
    some x5
def sp_wyAll_l4 (k : Nat)  : Nat → tboGrid.in → (List twyNode.in) → (List Int) → Int → Option (List twyNode.in)
  | 0, _, _, _, _ => none
  | n + 1, x2, x5, x6, x7 => sp_wyAll_l4s k (fun g0 => sp_wyAll_l7 k g0 k) (sp_wyAll_l4 k n) x2 x5 x6 x7
def sp_wyAll_s (k : Nat) (c_l4 : tboGrid.in → (List twyNode.in) → (List Int) → Int → Option (List twyNode.in)) (x0 : tboGrid.in) (x1 : tState.in) : Option (List twyNode.in) :=
  (sp_wyCode k x0 x1).bind fun r1 =>
  c_l4 x0 ([(x1, (0 : Int), (1 : Int), (-1 : Int), (0 : Int), (List.replicate 4 (0 : Int)), ())] : List twyNode.in) ([r1] : List Int) (0 : Int)
def sp_wyAll (k : Nat) (x0 : tboGrid.in) (x1 : tState.in) : Option (List twyNode.in) := sp_wyAll_s k (sp_wyAll_l4 k k) x0 x1
noncomputable def sp_wyAll_O (k : Nat) : Orc := { ps := [.v tboGrid, .v tState], rt := (.o 102 twyNode), F := fun x => sp_wyAll k x.1 x.2.1 }
noncomputable def sp_wyAll_E (k : Nat) : Env := { ty := tabTy Tryd_tab, ds := tabDs Tryd_tab, rounds := k, nt := 109, orc := fun g => if Nat.beq g 125 = true then some (sp_boRoll_O k) else (if Nat.beq g 129 = true then some (sp_wyCode_O k) else (if Nat.beq g 130 = true then some (sp_wyPlace_O k) else (none))), lp := fun i => if Nat.beq i 4 = true then some sp_wyAll_l4_L else (if Nat.beq i 7 = true then some sp_wyAll_l7_L else (none)), ct := fun i => if Nat.beq i 17 = true then some sp_wyAll_j17_L else (if Nat.beq i 19 = true then some sp_wyAll_j19_L else (none)), plan := fun i => if Nat.beq i 18 = true then some [(0, []), (1, []), (2, []), (3, []), (4, []), (5, []), (6, []), (7, []), (8, []), (9, []), (10, []), (11, []), (12, []), (13, [])] else (if Nat.beq i 17 = true then some [(0, []), (1, []), (2, []), (3, []), (4, []), (5, []), (6, []), (7, []), (8, []), (9, []), (10, []), (11, [])] else (if Nat.beq i 15 = true then some [(0, []), (1, []), (2, []), (3, []), (4, []), (5, []), (6, []), (7, []), (8, []), (9, []), (10, []), (11, []), (12, []), (13, [])] else (if Nat.beq i 10 = true then some [(0, []), (1, []), (2, []), (3, []), (4, []), (5, []), (6, []), (7, [11]), (8, []), (9, []), (10, []), (11, []), (12, []), (13, [])] else (none)))) }
noncomputable def sp_wyAll_fin (k : Nat) : Kn (List twyNode.in) := finish (sp_wyAll_E k) [.v tboGrid, .v tState] (.o 102 twyNode) Tryd.f106.results.toList
noncomputable def sp_wyAll_j19_e (k : Nat) (g_l4 : tboGrid.in → (List twyNode.in) → (List Int) → Int → Option (List twyNode.in)) (g_l7 : tboGrid.in → (List twyNode.in) → (List Int) → Int → Int → Option (List twyNode.in)) (n : Nat) (x2 : tboGrid.in) (x5 : (List twyNode.in)) (x6 : (List Int)) (x7 : Int) (x8 : Int) (x11 : Int) : Option (List twyNode.in) := joinF (sp_wyAll_E k) sp_wyAll_j19_L (ev (sp_wyAll_E k) (sub (bodyOf Tryd.f106) [.r, .r, .r, .l, .r, .c, .c, .r, .l, .c, .r, .c, .c, .r, .l, .c, .r, .r, .r, .r, .r, .r])) (kont (sp_wyAll_E k) (bodyOf Tryd.f106) [.r, .r, .r, .l, .r, .c, .c, .r, .l, .c, .r, .c, .c, .r, .l, .c, .r, .r, .r, .r, .r, .r] [⟨sp_wyAll_l4_L, fun d => g_l4 d.1 d.2.1 d.2.2.1 d.2.2.2.1⟩, ⟨sp_wyAll_l7_L, fun d => g_l7 d.1 d.2.1 d.2.2.1 d.2.2.2.1 d.2.2.2.2.1⟩] (sp_wyAll_fin k)) n (x2, x5, x6, x7, x8, x11, ())
theorem sp_wyAll_j19_z (k : Nat) (g_l4 : tboGrid.in → (List twyNode.in) → (List Int) → Int → Option (List twyNode.in)) (g_l7 : tboGrid.in → (List twyNode.in) → (List Int) → Int → Int → Option (List twyNode.in)) (x2 : tboGrid.in) (x5 : (List twyNode.in)) (x6 : (List Int)) (x7 : Int) (x8 : Int) (x11 : Int) : sp_wyAll_j19_e k g_l4 g_l7 0 x2 x5 x6 x7 x8 x11 = none := by kernel_rfl
theorem sp_wyAll_j19_st (k : Nat) (g_l4 : tboGrid.in → (List twyNode.in) → (List Int) → Int → Option (List twyNode.in)) (g_l7 : tboGrid.in → (List twyNode.in) → (List Int) → Int → Int → Option (List twyNode.in)) (n : Nat) (x2 : tboGrid.in) (x5 : (List twyNode.in)) (x6 : (List Int)) (x7 : Int) (x8 : Int) (x11 : Int) : sp_wyAll_j19_e k g_l4 g_l7 (n + 1) x2 x5 x6 x7 x8 x11 = sp_wyAll_j19s k g_l4 g_l7 x2 x5 x6 x7 x8 x11 := by kernel_rfl
theorem sp_wyAll_j19_ev (k : Nat) (g_l4 : tboGrid.in → (List twyNode.in) → (List Int) → Int → Option (List twyNode.in)) (g_l7 : tboGrid.in → (List twyNode.in) → (List Int) → Int → Int → Option (List twyNode.in)) : ∀ (n : Nat) (x2 : tboGrid.in) (x5 : (List twyNode.in)) (x6 : (List Int)) (x7 : Int) (x8 : Int) (x11 : Int), sp_wyAll_j19_e k g_l4 g_l7 n x2 x5 x6 x7 x8 x11 = sp_wyAll_j19 k g_l4 g_l7 n x2 x5 x6 x7 x8 x11
  | 0, x2, x5, x6, x7, x8, x11 => sp_wyAll_j19_z k g_l4 g_l7 x2 x5 x6 x7 x8 x11
  | n + 1, x2, x5, x6, x7, x8, x11 => by
    skip
    rw [sp_wyAll_j19_st]; rfl
noncomputable def sp_wyAll_j17_e (k : Nat) (g_l4 : tboGrid.in → (List twyNode.in) → (List Int) → Int → Option (List twyNode.in)) (g_l7 : tboGrid.in → (List twyNode.in) → (List Int) → Int → Int → Option (List twyNode.in)) (n : Nat) (x2 : tboGrid.in) (x5 : (List twyNode.in)) (x6 : (List Int)) (x7 : Int) (x8 : Int) (x11 : Int) : Option (List twyNode.in) := joinF (sp_wyAll_E k) sp_wyAll_j17_L (ev (sp_wyAll_E k) (sub (bodyOf Tryd.f106) [.r, .r, .r, .l, .r, .c, .c, .r, .l, .c, .r, .c, .c, .r, .l, .c, .r, .r, .r, .r, .r])) (kont (sp_wyAll_E k) (bodyOf Tryd.f106) [.r, .r, .r, .l, .r, .c, .c, .r, .l, .c, .r, .c, .c, .r, .l, .c, .r, .r, .r, .r, .r] [⟨sp_wyAll_l4_L, fun d => g_l4 d.1 d.2.1 d.2.2.1 d.2.2.2.1⟩, ⟨sp_wyAll_l7_L, fun d => g_l7 d.1 d.2.1 d.2.2.1 d.2.2.2.1 d.2.2.2.2.1⟩] (sp_wyAll_fin k)) n (x2, x5, x6, x7, x8, x11, ())
theorem sp_wyAll_j17_z (k : Nat) (g_l4 : tboGrid.in → (List twyNode.in) → (List Int) → Int → Option (List twyNode.in)) (g_l7 : tboGrid.in → (List twyNode.in) → (List Int) → Int → Int → Option (List twyNode.in)) (x2 : tboGrid.in) (x5 : (List twyNode.in)) (x6 : (List Int)) (x7 : Int) (x8 : Int) (x11 : Int) : sp_wyAll_j17_e k g_l4 g_l7 0 x2 x5 x6 x7 x8 x11 = none := by kernel_rfl
theorem sp_wyAll_j17_st (k : Nat) (g_l4 : tboGrid.in → (List twyNode.in) → (List Int) → Int → Option (List twyNode.in)) (g_l7 : tboGrid.in → (List twyNode.in) → (List Int) → Int → Int → Option (List twyNode.in)) (n : Nat) (x2 : tboGrid.in) (x5 : (List twyNode.in)) (x6 : (List Int)) (x7 : Int) (x8 : Int) (x11 : Int) : sp_wyAll_j17_e k g_l4 g_l7 (n + 1) x2 x5 x6 x7 x8 x11 = sp_wyAll_j17s k (fun g0 g1 => sp_wyAll_j19_e k g0 g1 k) g_l4 g_l7 x2 x5 x6 x7 x8 x11 := by kernel_rfl
theorem sp_wyAll_j17_ev (k : Nat) (g_l4 : tboGrid.in → (List twyNode.in) → (List Int) → Int → Option (List twyNode.in)) (g_l7 : tboGrid.in → (List twyNode.in) → (List Int) → Int → Int → Option (List twyNode.in)) : ∀ (n : Nat) (x2 : tboGrid.in) (x5 : (List twyNode.in)) (x6 : (List Int)) (x7 : Int) (x8 : Int) (x11 : Int), sp_wyAll_j17_e k g_l4 g_l7 n x2 x5 x6 x7 x8 x11 = sp_wyAll_j17 k g_l4 g_l7 n x2 x5 x6 x7 x8 x11
  | 0, x2, x5, x6, x7, x8, x11 => sp_wyAll_j17_z k g_l4 g_l7 x2 x5 x6 x7 x8 x11
  | n + 1, x2, x5, x6, x7, x8, x11 => by
    have h0 : (fun g0 g1 => sp_wyAll_j19_e k g0 g1 k) = (fun g0 g1 => sp_wyAll_j19 k g0 g1 k) := by funext g0 g1 y0 y1 y2 y3 y4 y5; exact sp_wyAll_j19_ev k g0 g1 k y0 y1 y2 y3 y4 y5
    rw [sp_wyAll_j17_st, h0]; rfl
noncomputable def sp_wyAll_l7_e (k : Nat) (g_l4 : tboGrid.in → (List twyNode.in) → (List Int) → Int → Option (List twyNode.in)) (n : Nat) (x2 : tboGrid.in) (x5 : (List twyNode.in)) (x6 : (List Int)) (x7 : Int) (x8 : Int) : Option (List twyNode.in) := loopF (sp_wyAll_E k) sp_wyAll_l7_L (ev (sp_wyAll_E k) (sub (bodyOf Tryd.f106) [.r, .r, .r, .l, .r, .c, .c, .r, .l, .c, .r, .c, .c])) (kont (sp_wyAll_E k) (bodyOf Tryd.f106) [.r, .r, .r, .l, .r, .c, .c, .r, .l, .c, .r, .c] [⟨sp_wyAll_l4_L, fun d => g_l4 d.1 d.2.1 d.2.2.1 d.2.2.2.1⟩] (sp_wyAll_fin k)) n (x2, x5, x6, x7, x8, ())
theorem sp_wyAll_l7_z (k : Nat) (g_l4 : tboGrid.in → (List twyNode.in) → (List Int) → Int → Option (List twyNode.in)) (x2 : tboGrid.in) (x5 : (List twyNode.in)) (x6 : (List Int)) (x7 : Int) (x8 : Int) : sp_wyAll_l7_e k g_l4 0 x2 x5 x6 x7 x8 = none := by kernel_rfl
theorem sp_wyAll_l7_st (k : Nat) (g_l4 : tboGrid.in → (List twyNode.in) → (List Int) → Int → Option (List twyNode.in)) (n : Nat) (x2 : tboGrid.in) (x5 : (List twyNode.in)) (x6 : (List Int)) (x7 : Int) (x8 : Int) : sp_wyAll_l7_e k g_l4 (n + 1) x2 x5 x6 x7 x8 = sp_wyAll_l7s k (fun g0 g1 => sp_wyAll_j17_e k g0 g1 k) g_l4 (sp_wyAll_l7_e k g_l4 n) x2 x5 x6 x7 x8 := by kernel_rfl
theorem sp_wyAll_l7_ev (k : Nat) (g_l4 : tboGrid.in → (List twyNode.in) → (List Int) → Int → Option (List twyNode.in)) : ∀ (n : Nat) (x2 : tboGrid.in) (x5 : (List twyNode.in)) (x6 : (List Int)) (x7 : Int) (x8 : Int), sp_wyAll_l7_e k g_l4 n x2 x5 x6 x7 x8 = sp_wyAll_l7 k g_l4 n x2 x5 x6 x7 x8
  | 0, x2, x5, x6, x7, x8 => sp_wyAll_l7_z k g_l4 x2 x5 x6 x7 x8
  | n + 1, x2, x5, x6, x7, x8 => by
    have h0 : (fun g0 g1 => sp_wyAll_j17_e k g0 g1 k) = (fun g0 g1 => sp_wyAll_j17 k g0 g1 k) := by funext g0 g1 y0 y1 y2 y3 y4 y5; exact sp_wyAll_j17_ev k g0 g1 k y0 y1 y2 y3 y4 y5
    have ih : (sp_wyAll_l7_e k g_l4 n) = sp_wyAll_l7 k g_l4 n := by funext y0 y1 y2 y3 y4; exact sp_wyAll_l7_ev k g_l4 n y0 y1 y2 y3 y4
    rw [sp_wyAll_l7_st, h0, ih]; rfl
noncomputable def sp_wyAll_l4_e (k : Nat)  (n : Nat) (x2 : tboGrid.in) (x5 : (List twyNode.in)) (x6 : (List Int)) (x7 : Int) : Option (List twyNode.in) := loopF (sp_wyAll_E k) sp_wyAll_l4_L (ev (sp_wyAll_E k) (sub (bodyOf Tryd.f106) [.r, .r, .r, .l, .r, .c, .c])) (kont (sp_wyAll_E k) (bodyOf Tryd.f106) [.r, .r, .r, .l, .r, .c] [] (sp_wyAll_fin k)) n (x2, x5, x6, x7, ())
theorem sp_wyAll_l4_z (k : Nat)  (x2 : tboGrid.in) (x5 : (List twyNode.in)) (x6 : (List Int)) (x7 : Int) : sp_wyAll_l4_e k 0 x2 x5 x6 x7 = none := by kernel_rfl
theorem sp_wyAll_l4_st (k : Nat)  (n : Nat) (x2 : tboGrid.in) (x5 : (List twyNode.in)) (x6 : (List Int)) (x7 : Int) : sp_wyAll_l4_e k (n + 1) x2 x5 x6 x7 = sp_wyAll_l4s k (fun g0 => sp_wyAll_l7_e k g0 k) (sp_wyAll_l4_e k n) x2 x5 x6 x7 := by kernel_rfl
theorem sp_wyAll_l4_ev (k : Nat)  : ∀ (n : Nat) (x2 : tboGrid.in) (x5 : (List twyNode.in)) (x6 : (List Int)) (x7 : Int), sp_wyAll_l4_e k n x2 x5 x6 x7 = sp_wyAll_l4 k n x2 x5 x6 x7
  | 0, x2, x5, x6, x7 => sp_wyAll_l4_z k x2 x5 x6 x7
  | n + 1, x2, x5, x6, x7 => by
    have h0 : (fun g0 => sp_wyAll_l7_e k g0 k) = (fun g0 => sp_wyAll_l7 k g0 k) := by funext g0 y0 y1 y2 y3 y4; exact sp_wyAll_l7_ev k g0 k y0 y1 y2 y3 y4
    have ih : (sp_wyAll_l4_e k n) = sp_wyAll_l4 k n := by funext y0 y1 y2 y3; exact sp_wyAll_l4_ev k n y0 y1 y2 y3
    rw [sp_wyAll_l4_st, h0, ih]; rfl
theorem sp_wyAll_st (k : Nat) (x0 : tboGrid.in) (x1 : tState.in) : evFun (sp_wyAll_E k) [.v tboGrid, .v tState] (.o 102 twyNode) Tryd.f106 (x0, x1, ()) = sp_wyAll_s k (sp_wyAll_l4_e k k) x0 x1 := by kernel_rfl
theorem sp_wyAll_ev (k : Nat) (x0 : tboGrid.in) (x1 : tState.in) : evFun (sp_wyAll_E k) [.v tboGrid, .v tState] (.o 102 twyNode) Tryd.f106 (x0, x1, ()) = sp_wyAll k x0 x1 := by
  have h0 : (sp_wyAll_l4_e k k) = (sp_wyAll_l4 k k) := by funext y0 y1 y2 y3; exact sp_wyAll_l4_ev k k y0 y1 y2 y3
  rw [sp_wyAll_st, h0]; rfl
theorem sp_wyAll_c (k : Nat) : Contract Tryd.prog 106 (sp_wyAll_O k) :=
  fun_sound (c := bodyOf Tryd.f106) (tab_ok Tryd_tab_ok rfl rfl) (orc_cons (sp_boRoll_c k) (orc_cons (sp_wyCode_c k) (orc_cons (sp_wyPlace_c k) orc_nil))) Tryd.func106 (by kernel_rfl) rfl (by kernel_rfl) (by decide) rfl rfl (by kernel_rfl) (by kernel_rfl) (by kernel_rfl) (fun x _ h => (sp_wyAll_ev k x.1 x.2.1).trans h)
end Ev
/- loop.example/g01207/impl.reached -/
namespace Ev
open Go Go.Proofs
/-! impl.reached -/
@[reducible] def im_reached_l6_L : List (Nat × Sh) := [(1, (.v (.fn (.pr tState (.pr (.i .u8) T.un)) (.tu (.pr tState (.pr T.b T.un)))))), (5, (.bx 109 (.pr (.o 31 tState) (.pr (.o 3 I) (.pr (.o 5 (.i .u8)) (.pr (.o 3 I) (.pr (.m 107 tState I) .un))))))), (6, (.v I)), (31, (.v I))]
@[reducible] def im_reached_l3_L : List (Nat × Sh) := [(1, (.v (.fn (.pr tState (.pr (.i .u8) T.un)) (.tu (.pr tState (.pr T.b T.un)))))), (5, (.bx 109 (.pr (.o 31 tState) (.pr (.o 3 I) (.pr (.o 5 (.i .u8)) (.pr (.o 3 I) (.pr (.m 107 tState I) .un))))))), (6, (.v I))]
def im_reached_l6s (_k : Nat) (g_l3 : ((tState.in × (Int × Unit)) → Option (tState.in × (Bool × Unit))) → ((List tState.in) × ((List Int) × ((List Int) × ((List Int) × ((List (tState.in × Int)) × Unit))))) → Int → Option (Option treach.in)) (g_l6 : ((tState.in × (Int × Unit)) → Option (tState.in × (Bool × Unit))) → ((List tState.in) × ((List Int) × ((List Int) × ((List Int) × ((List (tState.in × Int)) × Unit))))) → Int → Int → Option (Option treach.in)) (x1 : ((tState.in × (Int × Unit)) → Option (tState.in × (Bool × Unit)))) (x5 : ((List tState.in) × ((List Int) × ((List Int) × ((List Int) × ((List (tState.in × Int)) × Unit)))))) (x6 : Int) (x31 : Int) : Option (Option treach.in) :=
  if (decide (x31 < (4 : Int))) = true then
    inb x6 x5.1.length (
      inb x31 ([110, 101, 115, 119] : List Int).length (
        (x1 ((x5.1.getD (x6).toNat ((0 : Int), (0 : Int), ((0 : Int), (0 : Int), (0 : Int), (0 : Int), (0 : Int), (0 : Int), ()), ())), (([110, 101, 115, 119] : List Int).getD (x31).toNat 0), ())).bind fun r1 =>
        if (!r1.2.1) = true then
          g_l6 x1 (x5.1, x5.2.1, x5.2.2.1, x5.2.2.2.1, x5.2.2.2.2.1, ()) x6 (IntKind.i64.wrap (x31 + (1 : Int)))
        else
          if (lk tState I x5.2.2.2.2.1 r1.1).isSome = true then
            g_l6 x1 (x5.1, x5.2.1, x5.2.2.1, x5.2.2.2.1, x5.2.2.2.2.1, ()) x6 (IntKind.i64.wrap (x31 + (1 : Int)))
          else
            inb x31 ([110, 101, 115, 119] : List Int).length (
              inb x6 x5.2.2.2.1.length (
                if x5.1.length + ([r1.1] : List tState.in).length ≤ 17179869184 then (
                  if x5.2.1.length + ([x6] : List Int).length ≤ 17179869184 then (
                    if x5.2.2.1.length + ([(([110, 101, 115, 119] : List Int).getD (x31).toNat 0)] : List Int).length ≤ 17179869184 then (
                      if x5.2.2.2.1.length + ([(IntKind.i64.wrap ((x5.2.2.2.1.getD (x6).toNat (0 : Int)) + (1 : Int)))] : List Int).length ≤ 17179869184 then (
                        g_l6 x1 ((x5.1 ++ ([r1.1] : List tState.in)), (x5.2.1 ++ ([x6] : List Int)), (x5.2.2.1 ++ ([(([110, 101, 115, 119] : List Int).getD (x31).toNat 0)] : List Int)), (x5.2.2.2.1 ++ ([(IntKind.i64.wrap ((x5.2.2.2.1.getD (x6).toNat (0 : Int)) + (1 : Int)))] : List Int)), (up tState I x5.2.2.2.2.1 r1.1 (x5.1.length : Int)), ()) x6 (IntKind.i64.wrap (x31 + (1 : Int)))) else none) else none) else none) else none))))
  else
    g_l3 x1 (x5.1, x5.2.1, x5.2.2.1, x5.2.2.2.1, x5.2.2.2.2.1, ()) (IntKind.i64.wrap (x6 + (1 : Int)))
def im_reached_l6 (k : Nat) (g_l3 : ((tState.in × (Int × Unit)) → Option (tState.in × (Bool × Unit))) → ((List tState.in) × ((List Int) × ((List Int) × ((List Int) × ((List (tState.in × Int)) × Unit))))) → Int → Option (Option treach.in)) : Nat → ((tState.in × (Int × Unit)) → Option (tState.in × (Bool × Unit))) → ((List tState.in) × ((List Int) × ((List Int) × ((List Int) × ((List (tState.in × Int)) × Unit))))) → Int → Int → Option (Option treach.in)
  | 0, _, _, _, _ => none
  | n + 1, x1, x5, x6, x31 => im_reached_l6s k g_l3 (im_reached_l6 k g_l3 n) x1 x5 x6 x31
def im_reached_l3s (_k : Nat) (c_l6 : (((tState.in × (Int × Unit)) → Option (tState.in × (Bool × Unit))) → ((List tState.in) × ((List Int) × ((List Int) × ((List Int) × ((List (tState.in × Int)) × Unit))))) → Int → Option (Option treach.in)) → ((tState.in × (Int × Unit)) → Option (tState.in × (Bool × Unit))) → ((List tState.in) × ((List Int) × ((List Int) × ((List Int) × ((List (tState.in × Int)) × Unit))))) → Int → Int → Option (Option treach.in)) (g_l3 : ((tState.in × (Int × Unit)) → Option (tState.in × (Bool × Unit))) → ((List tState.in) × ((List Int) × ((List Int) × ((List Int) × ((List (tState.in × Int)) × Unit))))) → Int → Option (Option treach.in)) (x1 : ((tState.in × (Int × Unit)) → Option (tState.in × (Bool × Unit)))) (x5 : ((List tState.in) × ((List Int) × ((List Int) × ((List Int) × ((List (tState.in × Int)) × Unit)))))) (x6 : Int) : Option (Option treach.in) :=
  if (decide (x6 < (x5.1.length : Int))) = true then
    c_l6 g_l3 x1 (x5.1, x5.2.1, x5.2.2.1, x5.2.2.2.1, x5.2.2.2.2.1, ()) x6 (0 : Int)
  else
    some (some (x5.1, x5.2.1, x5.2.2.1, x5.2.2.2.1, x5.2.2.2.2.1, ()))
def im_reached_l3 (k : Nat)  : Nat → ((tState.in × (Int × Unit)) → Option (tState.in × (Bool × Unit))) → ((List tState.in) × ((List Int) × ((List Int) × ((List Int) × ((List (tState.in × Int)) × Unit))))) → Int → Option (Option treach.in)
  | 0, _, _, _ => none
  | n + 1, x1, x5, x6 => im_reached_l3s k (fun g0 => im_reached_l6 k g0 k) (im_reached_l3 k n) x1 x5 x6
def im_reached_s (_k : Nat) (c_l3 : ((tState.in × (Int × Unit)) → Option (tState.in × (Bool × Unit))) → ((List tState.in) × ((List Int) × ((List Int) × ((List Int) × ((List (tState.in × Int)) × Unit))))) → Int → Option (Option treach.in)) (x0 : tState.in) (x1 : ((tState.in × (Int × Unit)) → Option (tState.in × (Bool × Unit)))) : Option (Option treach.in) :=
  c_l3 x1 (([x0] : List tState.in), ([(-1 : Int)] : List Int), ([(0 : Int)] : List Int), ([(0 : Int)] : List Int), (up tState I ([] : List (tState.in × Int)) x0 (0 : Int)), ()) (0 : Int)
def im_reached (k : Nat) (x0 : tState.in) (x1 : ((tState.in × (Int × Unit)) → Option (tState.in × (Bool × Unit)))) : Option (Option treach.in) := im_reached_s k (im_reached_l3 k k) x0 x1
noncomputable def im_reached_O (k : Nat) : Orc := { ps := [.v tState, .v (.fn (.pr tState (.pr (.i .u8) T.un)) (.tu (.pr tState (.pr T.b T.un))))], rt := (.v (.pt treach)), F := fun x => im_reached k x.1 x.2.1 }
noncomputable def im_reached_E (k : Nat) : Env := { ty := tabTy Tryd_tab, ds := tabDs Tryd_tab, rounds := k, nt := 122, orc := fun _ => none, lp := fun i => if Nat.beq i 3 = true then some im_reached_l3_L else (if Nat.beq i 6 = true then some im_reached_l6_L else (none)), ct := fun _ => none, plan := fun i => if Nat.beq i 12 = true then some [(0, []), (1, []), (2, []), (3, []), (4, []), (5, []), (6, []), (7, []), (8, []), (11, []), (12, []), (13, []), (14, []), (15, []), (18, []), (19, []), (20, []), (21, []), (22, []), (23, []), (26, []), (27, []), (28, []), (29, []), (30, []), (31, []), (32, []), (33, []), (34, []), (35, []), (36, []), (37, []), (9, [16, 24, 38]), (10, [16, 24, 38]), (16, [24, 38]), (17, [24, 38]), (24, [38]), (25, [38]), (38, []), (39, []), (40, []), (41, []), (42, []), (43, []), (44, []), (45, []), (46, []), (47, []), (48, []), (49, []), (50, []), (51, [])] else (if Nat.beq i 11 = true then some [(0, []), (1, []), (2, []), (3, []), (4, []), (5, []), (6, []), (7, []), (8, []), (9, []), (10, [])] else (if Nat.beq i 9 = true then some [(0, []), (1, []), (2, []), (3, []), (4, []), (5, []), (6, []), (7, []), (8, []), (9, []), (10, [])] else (if Nat.beq i 8 = true then some [(0, []), (1, []), (2, []), (3, []), (4, []), (5, []), (6, []), (7, []), (8, []), (9, []), (10, [14]), (11, []), (12, []), (13, []), (14, []), (15, []), (16, [])] else (if Nat.beq i 1 = true then some [(0, []), (6, []), (5, [1, 2, 3, 4]), (7, [1, 2, 3, 4]), (8, []), (1, [2, 3, 4]), (2, [3, 4]), (3, [4]), (4, []), (9, []), (10, []), (11, [])] else (none))))) }
noncomputable def im_reached_fin (k : Nat) : Kn (Option treach.in) := finish (im_reached_E k) [.v tState, .v (.fn (.pr tState (.pr (.i .u8) T.un)) (.tu (.pr tState (.pr T.b T.un))))] (.v (.pt treach)) Tryd.f131.results.toList
noncomputable def im_reached_l6_e (k : Nat) (g_l3 : ((tState.in × (Int × Unit)) → Option (tState.in × (Bool × Unit))) → ((List tState.in) × ((List Int) × ((List Int) × ((List Int) × ((List (tState.in × Int)) × Unit))))) → Int → Option (Option treach.in)) (n : Nat) (x1 : ((tState.in × (Int × Unit)) → Option (tState.in × (Bool × Unit)))) (x5 : ((List tState.in) × ((List Int) × ((List Int) × ((List Int) × ((List (tState.in × Int)) × Unit)))))) (x6 : Int) (x31 : Int) : Option (Option treach.in) := loopF (im_reached_E k) im_reached_l6_L (ev (im_reached_E k) (sub (bodyOf Tryd.f131) [.r, .r, .l, .r, .c, .c, .r, .l, .c, .r, .c, .c])) (kont (im_reached_E k) (bodyOf Tryd.f131) [.r, .r, .l, .r, .c, .c, .r, .l, .c, .r, .c] [⟨im_reached_l3_L, fun d => g_l3 d.1 d.2.1 d.2.2.1⟩] (im_reached_fin k)) n (x1, x5, x6, x31, ())
theorem im_reached_l6_z (k : Nat) (g_l3 : ((tState.in × (Int × Unit)) → Option (tState.in × (Bool × Unit))) → ((List tState.in) × ((List Int) × ((List Int) × ((List Int) × ((List (tState.in × Int)) × Unit))))) → Int → Option (Option treach.in)) (x1 : ((tState.in × (Int × Unit)) → Option (tState.in × (Bool × Unit)))) (x5 : ((List tState.in) × ((List Int) × ((List Int) × ((List Int) × ((List (tState.in × Int)) × Unit)))))) (x6 : Int) (x31 : Int) : im_reached_l6_e k g_l3 0 x1 x5 x6 x31 = none := by kernel_rfl
theorem im_reached_l6_st (k : Nat) (g_l3 : ((tState.in × (Int × Unit)) → Option (tState.in × (Bool × Unit))) → ((List tState.in) × ((List Int) × ((List Int) × ((List Int) × ((List (tState.in × Int)) × Unit))))) → Int → Option (Option treach.in)) (n : Nat) (x1 : ((tState.in × (Int × Unit)) → Option (tState.in × (Bool × Unit)))) (x5 : ((List tState.in) × ((List Int) × ((List Int) × ((List Int) × ((List (tState.in × Int)) × Unit)))))) (x6 : Int) (x31 : Int) : im_reached_l6_e k g_l3 (n + 1) x1 x5 x6 x31 = im_reached_l6s k g_l3 (im_reached_l6_e k g_l3 n) x1 x5 x6 x31 := by kernel_rfl
theorem im_reached_l6_ev (k : Nat) (g_l3 : ((tState.in × (Int × Unit)) → Option (tState.in × (Bool × Unit))) → ((List tState.in) × ((List Int) × ((List Int) × ((List Int) × ((List (tState.in × Int)) × Unit))))) → Int → Option (Option treach.in)) : ∀ (n : Nat) (x1 : ((tState.in × (Int × Unit)) → Option (tState.in × (Bool × Unit)))) (x5 : ((List tState.in) × ((List Int) × ((List Int) × ((List Int) × ((List (tState.in × Int)) × Unit)))))) (x6 : Int) (x31 : Int), im_reached_l6_e k g_l3 n x1 x5 x6 x31 = im_reached_l6 k g_l3 n x1 x5 x6 x31
  | 0, x1, x5, x6, x31 => im_reached_l6_z k g_l3 x1 x5 x6 x31
  | n + 1, x1, x5, x6, x31 => by
    have ih : (im_reached_l6_e k g_l3 n) = im_reached_l6 k g_l3 n := by funext y0 y1 y2 y3; exact im_reached_l6_ev k g_l3 n y0 y1 y2 y3
    rw [im_reached_l6_st, ih]; rfl
noncomputable def im_reached_l3_e (k : Nat)  (n : Nat) (x1 : ((tState.in × (Int × Unit)) → Option (tState.in × (Bool × Unit)))) (x5 : ((List tState.in) × ((List Int) × ((List Int) × ((List Int) × ((List (tState.in × Int)) × Unit)))))) (x6 : Int) : Option (Option treach.in) := loopF (im_reached_E k) im_reached_l3_L (ev (im_reached_E k) (sub (bodyOf Tryd.f131) [.r, .r, .l, .r, .c, .c])) (kont (im_reached_E k) (bodyOf Tryd.f131) [.r, .r, .l, .r, .c] [] (im_reached_fin k)) n (x1, x5, x6, ())
theorem im_reached_l3_z (k : Nat)  (x1 : ((tState.in × (Int × Unit)) → Option (tState.in × (Bool × Unit)))) (x5 : ((List tState.in) × ((List Int) × ((List Int) × ((List Int) × ((List (tState.in × Int)) × Unit)))))) (x6 : Int) : im_reached_l3_e k 0 x1 x5 x6 = none := by kernel_rfl
theorem im_reached_l3_st (k : Nat)  (n : Nat) (x1 : ((tState.in × (Int × Unit)) → Option (tState.in × (Bool × Unit)))) (x5 : ((List tState.in) × ((List Int) × ((List Int) × ((List Int) × ((List (tState.in × Int)) × Unit)))))) (x6 : Int) : im_reached_l3_e k (n + 1) x1 x5 x6 = im_reached_l3s k (fun g0 => im_reached_l6_e k g0 k) (im_reached_l3_e k n) x1 x5 x6 := by kernel_rfl
theorem im_reached_l3_ev (k : Nat)  : ∀ (n : Nat) (x1 : ((tState.in × (Int × Unit)) → Option (tState.in × (Bool × Unit)))) (x5 : ((List tState.in) × ((List Int) × ((List Int) × ((List Int) × ((List (tState.in × Int)) × Unit)))))) (x6 : Int), im_reached_l3_e k n x1 x5 x6 = im_reached_l3 k n x1 x5 x6
  | 0, x1, x5, x6 => im_reached_l3_z k x1 x5 x6
  | n + 1, x1, x5, x6 => by
    have h0 : (fun g0 => im_reached_l6_e k g0 k) = (fun g0 => im_reached_l6 k g0 k) := by funext g0 y0 y1 y2 y3; exact im_reached_l6_ev k g0 k y0 y1 y2 y3
    have ih : (im_reached_l3_e k n) = im_reached_l3 k n := by funext y0 y1 y2; exact im_reached_l3_ev k n y0 y1 y2
    rw [im_reached_l3_st, h0, ih]; rfl
theorem im_reached_st (k : Nat) (x0 : tState.in) (x1 : ((tState.in × (Int × Unit)) → Option (tState.in × (Bool × Unit)))) : evFun (im_reached_E k) [.v tState, .v (.fn (.pr tState (.pr (.i .u8) T.un)) (.tu (.pr tState (.pr T.b T.un))))] (.v (.pt treach)) Tryd.f131 (x0, x1, ()) = im_reached_s k (im_reached_l3_e k k) x0 x1 := by kernel_rfl
theorem im_reached_ev (k : Nat) (x0 : tState.in) (x1 : ((tState.in × (Int × Unit)) → Option (tState.in × (Bool × Unit)))) : evFun (im_reached_E k) [.v tState, .v (.fn (.pr tState (.pr (.i .u8) T.un)) (.tu (.pr tState (.pr T.b T.un))))] (.v (.pt treach)) Tryd.f131 (x0, x1, ()) = im_reached k x0 x1 := by
  have h0 : (im_reached_l3_e k k) = (im_reached_l3 k k) := by funext y0 y1 y2; exact im_reached_l3_ev k k y0 y1 y2
  rw [im_reached_st, h0]; rfl
theorem im_reached_c (k : Nat) : Contract Tryd.prog 131 (im_reached_O k) :=
  fun_sound (c := bodyOf Tryd.f131) (tab_ok Tryd_tab_ok rfl rfl) orc_nil Tryd.func131 (by kernel_rfl) rfl (by kernel_rfl) (by decide) rfl rfl (by kernel_rfl) (by kernel_rfl) (by kernel_rfl) (fun x _ h => (im_reached_ev k x.1 x.2.1).trans h)
end Ev
/- Plain laws: all states that rolls reach, as both sides find them. -/
namespace Ev
open Go

theorem dieEq (x y : tDie.in) : tDie.eqv x y = true ↔ x = y := by
  obtain ⟨a, b, c, d, e, f, u⟩ := x
  obtain ⟨a', b', c', d', e', f', u'⟩ := y
  show (decide (a = a') && (decide (b = b') && (decide (c = c') && (decide (d = d') && (decide (e = e') && (decide (f = f') && true)))))) = true ↔ _
  simp
theorem stEq (x y : tState.in) : tState.eqv x y = true ↔ x = y := by
  obtain ⟨a, b, c, u⟩ := x
  obtain ⟨a', b', c', u'⟩ := y
  show (decide (a = a') && (decide (b = b') && (tDie.eqv c c' && true))) = true ↔ _
  rw [Bool.and_eq_true, Bool.and_eq_true, Bool.and_eq_true, dieEq]
  simp
/-- A state that is found: by which one before, by what direction, and how far it is. -/
structure En where
  s : tState.in
  b : Int
  d : Int
  f : Int
def e0 : En := ⟨sz0, 0, 0, 0⟩
def chrD (d : Int) : Int := ([110, 101, 115, 119] : List Int).getD d.toNat 0
theorem chrD_dir {d : Nat} (h : d < 4) : isDir (chrD (d : Int)) ∧ dirI (chrD (d : Int)) = (d : Int) := by
  match d, h with
  | 0, _ => exact ⟨by decide, rfl⟩
  | 1, _ => exact ⟨by decide, rfl⟩
  | 2, _ => exact ⟨by decide, rfl⟩
  | 3, _ => exact ⟨by decide, rfl⟩
def addE (g : List (List Int)) (L : List En) (q d : Nat) : List En :=
  if flo g (rol (L.getD q e0).s (chrD (d : Int))) = true ∧ rol (L.getD q e0).s (chrD (d : Int)) ∉ L.map En.s then L ++ [⟨rol (L.getD q e0).s (chrD (d : Int)), (q : Int), (d : Int), (L.getD q e0).f + 1⟩] else L
def adds (g : List (List Int)) (q : Nat) : Nat → Nat → List En → List En
  | 0, _, L => L
  | m + 1, d, L => adds g q m (d + 1) (addE g L q d)
structure Inv (g : List (List Int)) (s0 : tState.in) (L : List En) : Prop where
  nd : (L.map En.s).Nodup
  gd : ∀ e ∈ L, flo g e.s = true ∧ dieOk e.s.2.2.1 = true
  r0 : L.getD 0 e0 = ⟨s0, -1, 0, 0⟩
  ne : 0 < L.length
  fr : ∀ j, 0 < j → j < L.length → ∃ i d : Nat, (L.getD j e0).b = (i : Int) ∧ i < j ∧ (L.getD j e0).f = (L.getD i e0).f + 1 ∧ d < 4 ∧ (L.getD j e0).d = (d : Int) ∧ (L.getD j e0).s = rol (L.getD i e0).s (chrD (d : Int))
  fb : ∀ j, j < L.length → 0 ≤ (L.getD j e0).f ∧ (L.getD j e0).f ≤ (j : Int)
theorem gdl {α : Type} {z : α} (L : List α) (e : α) {j : Nat} (h : j < L.length) : (L ++ [e]).getD j z = L.getD j z := by simp [List.getD, List.getElem?_append, h]
theorem gdr {α : Type} {z : α} (L : List α) (e : α) : (L ++ [e]).getD L.length z = e := by simp [List.getD]
theorem gmem {α : Type} {z : α} (L : List α) {j : Nat} (h : j < L.length) : L.getD j z ∈ L := by rw [gd _ _ _ h]; exact List.getElem_mem h
theorem gmap {α β : Type} {z : α} (f : α → β) (L : List α) (y : β) {j : Nat} (h : j < L.length) : (L.map f).getD j y = f (L.getD j z) := by
  rw [gd _ _ _ (by simpa using h), gd _ _ _ h]; simp
def dgt (x : Int) : Prop := 0 ≤ x ∧ x ≤ 9
def rngI (x : Int) (n : Nat) : Prop := 0 ≤ x ∧ x < (n : Int)
theorem dieOk_iff (d : tDie.in) : dieOk d = true ↔ dgt d.1 ∧ dgt d.2.1 ∧ dgt d.2.2.1 ∧ dgt d.2.2.2.1 ∧ dgt d.2.2.2.2.1 ∧ dgt d.2.2.2.2.2.1 := by
  unfold dieOk faces dgt
  simp only [List.all_cons, List.all_nil, Bool.and_true, Bool.and_eq_true, decide_eq_true_eq]
theorem dieOk_rol (d : tDie.in) (c : Int) (h : dieOk d = true) : dieOk (rolD d c) = true := by
  rw [dieOk_iff] at h ⊢
  obtain ⟨h1, h2, h3, h4, h5, h6⟩ := h
  unfold rolD
  split
  · exact ⟨h4, h1, h3, h6, h5, h2⟩
  · split
    · exact ⟨h5, h2, h1, h4, h6, h3⟩
    · split
      · exact ⟨h2, h6, h3, h1, h5, h4⟩
      · exact ⟨h3, h2, h6, h4, h1, h5⟩
theorem Inv.add {g : List (List Int)} {s0 : tState.in} {L : List En} (h : Inv g s0 L) {q d : Nat} (hq : q < L.length) (hd : d < 4) : Inv g s0 (addE g L q d) ∧ L.length ≤ (addE g L q d).length := by
  unfold addE
  split
  · rename_i hc
    have hq0 := h.fb q hq
    have hgq := h.gd _ (gmem (z := e0) L hq)
    refine ⟨⟨?_, ?_, ?_, by simp, ?_, ?_⟩, by simp⟩
    · rw [List.map_append, List.nodup_append]
      refine ⟨h.nd, by simp, fun a ha b hb e => ?_⟩
      simp only [List.map_cons, List.map_nil, List.mem_singleton] at hb
      subst hb
      exact hc.2 (e ▸ ha)
    · intro e he
      rcases List.mem_append.1 he with he | he
      · exact h.gd e he
      · rw [List.mem_singleton] at he
        subst he
        exact ⟨hc.1, dieOk_rol _ _ hgq.2⟩
    · rw [gdl L _ h.ne]; exact h.r0
    · intro j hj hl
      rw [List.length_append, List.length_singleton] at hl
      by_cases hjl : j < L.length
      · obtain ⟨i, d', h1, h2, h3, h4, h5, h6⟩ := h.fr j hj hjl
        have hil : i < L.length := by omega
        exact ⟨i, d', by rw [gdl L _ hjl]; exact h1, h2, by rw [gdl L _ hjl, gdl L _ hil]; exact h3, h4, by rw [gdl L _ hjl]; exact h5, by rw [gdl L _ hjl, gdl L _ hil]; exact h6⟩
      · obtain rfl : j = L.length := by omega
        exact ⟨q, d, by rw [gdr], hq, by rw [gdr, gdl L _ hq], hd, by rw [gdr], by rw [gdr, gdl L _ hq]⟩
    · intro j hl
      rw [List.length_append, List.length_singleton] at hl
      by_cases hjl : j < L.length
      · rw [gdl L _ hjl]; exact h.fb j hjl
      · obtain rfl : j = L.length := by omega
        rw [gdr]
        show 0 ≤ (L.getD q e0).f + 1 ∧ (L.getD q e0).f + 1 ≤ _
        omega
  · exact ⟨h, Nat.le_refl _⟩
theorem Inv.adds {g : List (List Int)} {s0 : tState.in} {q : Nat} : ∀ (m d : Nat) (L : List En), Inv g s0 L → q < L.length → d + m = 4 → Inv g s0 (adds g q m d L) ∧ L.length ≤ (adds g q m d L).length
  | 0, _, L, h, _, _ => ⟨h, Nat.le_refl _⟩
  | m + 1, d, L, h, hq, hm => by
    obtain ⟨h1, h2⟩ := h.add hq (d := d) (by omega)
    obtain ⟨h3, h4⟩ := Inv.adds (q := q) m (d + 1) (addE g L q d) h1 (by omega) (by omega)
    exact ⟨h3, Nat.le_trans h2 h4⟩

/-! ### Numbers of states -/
def posN (w : Nat) (x y : Int) : Int := y * (w : Int) + x
def codeN (p a b c d e f : Int) : Int := 10 * (10 * (10 * (10 * (10 * (10 * p + a) + b) + c) + d) + e) + f
def codeP (w : Nat) (s : tState.in) : Int := codeN (posN w s.1 s.2.1) s.2.2.1.1 s.2.2.1.2.1 s.2.2.1.2.2.1 s.2.2.1.2.2.2.1 s.2.2.1.2.2.2.2.1 s.2.2.1.2.2.2.2.2.1
theorem flo_in {g : List (List Int)} {w h : Nat} (r : Rc g w h) {s : tState.in} (hf : flo g s = true) : rngI s.2.1 h ∧ rngI s.1 w := by
  have h1 := of_decide_eq_true hf
  unfold cell at h1
  rw [r.row0, r.len] at h1
  split at h1
  · assumption
  · cases h1
theorem pos_bd {w h : Nat} (w7 : w ≤ 7) (_h7 : h ≤ 7) {x y : Int} (hy : rngI y h) (hx : rngI x w) : (0 ≤ y * (w : Int) ∧ y * (w : Int) ≤ 48) ∧ 0 ≤ posN w x y ∧ posN w x y ≤ 48 := by
  obtain ⟨a1, a2⟩ := hy
  obtain ⟨b1, b2⟩ := hx
  obtain ⟨y, rfl⟩ := Int.eq_ofNat_of_zero_le a1
  have : (y + 1) * w ≤ 7 * 7 := Nat.mul_le_mul (by omega) w7
  rw [Nat.add_mul] at this
  unfold posN
  rw [mulI]
  omega
theorem pos_inj {w : Nat} {x y x' y' : Int} (hx : rngI x w) (hx' : rngI x' w) (he : posN w x y = posN w x' y') : x = x' ∧ y = y' := by
  obtain ⟨b1, b2⟩ := hx
  obtain ⟨c1, c2⟩ := hx'
  unfold posN at he
  have ey : y = y' := by
    rcases Int.lt_trichotomy y y' with q | q | q
    · have := Int.mul_le_mul_of_nonneg_right (show y + 1 ≤ y' by omega) (show (0 : Int) ≤ (w : Int) by omega)
      rw [Int.add_mul] at this
      omega
    · exact q
    · have := Int.mul_le_mul_of_nonneg_right (show y' + 1 ≤ y by omega) (show (0 : Int) ≤ (w : Int) by omega)
      rw [Int.add_mul] at this
      omega
  subst ey
  exact ⟨by omega, rfl⟩
theorem codeN_bd {p a b c d e f : Int} (_hp : 0 ≤ p ∧ p ≤ 48) (_h1 : dgt a) (_h2 : dgt b) (_h3 : dgt c) (_h4 : dgt d) (_h5 : dgt e) (_h6 : dgt f) : 0 ≤ codeN p a b c d e f ∧ codeN p a b c d e f < 49000000 := by
  unfold dgt at *
  unfold codeN
  omega
theorem codeN_inj {p a b c d e f p' a' b' c' d' e' f' : Int} (_h1 : dgt a) (_h2 : dgt b) (_h3 : dgt c) (_h4 : dgt d) (_h5 : dgt e) (_h6 : dgt f) (_k1 : dgt a') (_k2 : dgt b') (_k3 : dgt c') (_k4 : dgt d') (_k5 : dgt e') (_k6 : dgt f')
    (he : codeN p a b c d e f = codeN p' a' b' c' d' e' f') : p = p' ∧ a = a' ∧ b = b' ∧ c = c' ∧ d = d' ∧ e = e' ∧ f = f' := by
  unfold dgt at *
  unfold codeN at he
  have e6 : f = f' := by omega
  have e5 : e = e' := by omega
  have e4 : d = d' := by omega
  have e3 : c = c' := by omega
  have e2 : b = b' := by omega
  have e1 : a = a' := by omega
  exact ⟨by omega, e1, e2, e3, e4, e5, e6⟩
theorem code_bd {g : List (List Int)} {w h : Nat} (r : Rc g w h) {s : tState.in} (hf : flo g s = true) (hd : dieOk s.2.2.1 = true) : 0 ≤ codeP w s ∧ codeP w s < 49000000 := by
  obtain ⟨a1, a2⟩ := flo_in r hf
  obtain ⟨h1, h2, h3, h4, h5, h6⟩ := (dieOk_iff _).1 hd
  exact codeN_bd (pos_bd r.w7 r.h7 a1 a2).2 h1 h2 h3 h4 h5 h6
theorem code_inj {g : List (List Int)} {w h : Nat} (r : Rc g w h) {s t : tState.in} (hf : flo g s = true) (hd : dieOk s.2.2.1 = true) (hf' : flo g t = true) (hd' : dieOk t.2.2.1 = true) (he : codeP w s = codeP w t) : s = t := by
  obtain ⟨_, a2⟩ := flo_in r hf
  obtain ⟨_, a2'⟩ := flo_in r hf'
  obtain ⟨h1, h2, h3, h4, h5, h6⟩ := (dieOk_iff _).1 hd
  obtain ⟨h1', h2', h3', h4', h5', h6'⟩ := (dieOk_iff _).1 hd'
  obtain ⟨ep, e1, e2, e3, e4, e5, e6⟩ := codeN_inj h1 h2 h3 h4 h5 h6 h1' h2' h3' h4' h5' h6' he
  obtain ⟨ex, ey⟩ := pos_inj a2 a2' ep
  obtain ⟨sx, sy, ⟨s1, s2, s3, s4, s5, s6, su⟩, su2⟩ := s
  obtain ⟨tx, ty, ⟨t1, t2, t3, t4, t5, t6, tu⟩, tu2⟩ := t
  simp only at ex ey e1 e2 e3 e4 e5 e6
  subst ex ey e1 e2 e3 e4 e5 e6
  rfl
theorem code_step (k n : Nat) (out : Int) (l : List Int) (j : Nat) (f : Int) (_hl : l.length = 6) (_hj : j < 6) (hf : l.getD j 0 = f) (_h0 : 0 ≤ out ∧ out ≤ 100000000) (_h1 : 0 ≤ f ∧ f ≤ 9) :
    sp_wyCode_l3 k (n + 1) out l 6 (j : Int) = sp_wyCode_l3 k n (10 * out + f) l 6 ((j + 1 : Nat) : Int) := by
  show sp_wyCode_l3s k _ _ _ _ _ = _
  unfold sp_wyCode_l3s
  have e1 : l.getD (j : Int).toNat 0 = f := hf
  rw [if_pos (dt (by omega)), inb_eq (by omega), e1, wr (x := 10 * out) (by omega), wr (by omega), wr (by omega)]
  rfl
theorem code_is (k : Nat) (_hk : 2097152 ≤ k) {g : List (List Int)} {w h : Nat} (r : Rc g w h) {s : tState.in} (hf : flo g s = true) (hd : dieOk s.2.2.1 = true) : sp_wyCode k (gr g w h) s = some (codeP w s) := by
  obtain ⟨a1, a2⟩ := flo_in r hf
  obtain ⟨h1, h2, h3, h4, h5, h6⟩ := (dieOk_iff _).1 hd
  obtain ⟨⟨p1, p2⟩, p3, p4⟩ := pos_bd r.w7 r.h7 a1 a2
  obtain ⟨n, rfl⟩ : ∃ n, k = n + 7 := ⟨k - 7, by omega⟩
  have gen : ∀ (x y a b c d e f : Int), 0 ≤ y * (w : Int) ∧ y * (w : Int) ≤ 48 → 0 ≤ posN w x y ∧ posN w x y ≤ 48 → dgt a → dgt b → dgt c → dgt d → dgt e → dgt f →
      sp_wyCode_l3 (n + 7) (n + 7) (IntKind.i64.wrap (IntKind.i64.wrap (y * (w : Int)) + x)) [a, b, c, d, e, f] 6 ((0 : Nat) : Int) = some (codeN (posN w x y) a b c d e f) := by
    intro x y a b c d e f q1 q2 h1 h2 h3 h4 h5 h6
    unfold dgt at *
    have q3 : y * (w : Int) + x = posN w x y := rfl
    rw [wr (x := y * (w : Int)) (by omega), q3, wr (by omega)]
    rw [code_step _ (n + 6) _ _ 0 a rfl (by omega) rfl (by omega) h1]
    rw [code_step _ (n + 5) _ _ 1 b rfl (by omega) rfl (by omega) h2]
    rw [code_step _ (n + 4) _ _ 2 c rfl (by omega) rfl (by omega) h3]
    rw [code_step _ (n + 3) _ _ 3 d rfl (by omega) rfl (by omega) h4]
    rw [code_step _ (n + 2) _ _ 4 e rfl (by omega) rfl (by omega) h5]
    rw [code_step _ (n + 1) _ _ 5 f rfl (by omega) rfl (by omega) h6]
    show sp_wyCode_l3s (n + 7) _ _ _ _ _ = _
    unfold sp_wyCode_l3s
    rw [if_neg (ndt (by decide))]
    rfl
  exact gen s.1 s.2.1 _ _ _ _ _ _ ⟨p1, p2⟩ ⟨p3, p4⟩ h1 h2 h3 h4 h5 h6
theorem nodup_bd : ∀ (N : Nat) (l : List Int), l.Nodup → (∀ x ∈ l, 0 ≤ x ∧ x < (N : Int)) → l.length ≤ N
  | 0, l, _, h => by
    cases l with
    | nil => simp
    | cons x l => have := h x List.mem_cons_self; omega
  | N + 1, l, hn, h => by
    have h1 : (l.filter fun x => decide (x ≠ (N : Int))).length ≤ N := by
      refine nodup_bd N _ (hn.filter _) fun x hx => ?_
      rw [List.mem_filter] at hx
      have h1 := h x hx.1
      have h2 := of_decide_eq_true hx.2
      omega
    have h2 : l.length ≤ (l.filter fun x => decide (x ≠ (N : Int))).length + 1 := by
      clear h h1
      induction l with
      | nil => simp
      | cons x l ih =>
        have hn' := List.nodup_cons.1 hn
        by_cases hx : x = (N : Int)
        · subst hx
          have e : (l.filter fun x => decide (x ≠ (N : Int))) = l := List.filter_eq_self.2 fun y hy => decide_eq_true (fun q => hn'.1 (q ▸ hy))
          rw [List.filter_cons_of_neg (by simp), e]; simp
        · rw [List.filter_cons_of_pos (by simp [hx])]
          have := ih hn'.2
          simp only [List.length_cons]; omega
    omega
theorem Inv.codes {g : List (List Int)} {s0 : tState.in} {L : List En} (h : Inv g s0 L) {w hh : Nat} (r : Rc g w hh) : (L.map fun e => codeP w e.s).Nodup := by
  have hnd := h.nd
  have hgd := h.gd
  clear h
  induction L with
  | nil => simp
  | cons e L ih =>
    rw [List.map_cons, List.nodup_cons] at hnd ⊢
    refine ⟨fun q => ?_, ih hnd.2 (fun e he => hgd e (List.mem_cons_of_mem _ he))⟩
    obtain ⟨e', he', hc⟩ := List.mem_map.1 q
    have h1 := hgd e List.mem_cons_self
    have h2 := hgd e' (List.mem_cons_of_mem _ he')
    have := code_inj r h2.1 h2.2 h1.1 h1.2 hc
    exact hnd.1 (List.mem_map.2 ⟨e', he', this⟩)
theorem Inv.bd {g : List (List Int)} {s0 : tState.in} {L : List En} (h : Inv g s0 L) {w hh : Nat} (r : Rc g w hh) : L.length ≤ 49000000 := by
  have := nodup_bd 49000000 _ (h.codes r) (fun x hx => by
    obtain ⟨e, he, rfl⟩ := List.mem_map.1 hx
    have h1 := h.gd e he
    have := code_bd r h1.1 h1.2
    omega)
  simpa using this
theorem place_loop (k : Nat) (c : Int) (l : List Int) (hl : l.length ≤ 1000000000) : ∀ (d n j : Nat), l.length = j + d → d < n →
    sp_wyPlace_l2 k n c l (l.length : Int) (j : Int) = some (if fidx (fun x => decide (x = c)) (l.drop j) = -1 then -1 else (j : Int) + fidx (fun x => decide (x = c)) (l.drop j))
  | 0, n + 1, j, h, _ => by
    show sp_wyPlace_l2s k _ _ _ _ _ = _
    unfold sp_wyPlace_l2s
    rw [if_neg (ndt (by omega)), List.drop_of_length_le (by omega)]; rfl
  | d + 1, n + 1, j, h, hn => by
    show sp_wyPlace_l2s k _ _ _ _ _ = _
    unfold sp_wyPlace_l2s
    have hd := getD_drop l j 0 (by omega)
    have e1 : rdT I l (j : Int) = l.getD j 0 := rfl
    have ih := place_loop k c l hl d n (j + 1) (by omega) (by omega)
    have hg := fidx_ge (fun x => decide (x = c)) (l.drop (j + 1))
    rw [if_pos (dt (by omega)), inb_eq (by omega), e1, hd]
    unfold fidx
    by_cases hp : l.getD j 0 = c
    · rw [if_pos (dt hp), if_pos (dt hp), if_neg (by omega)]; simp
    · rw [if_neg (ndt hp), if_neg (ndt hp), wr (by omega)]
      refine (show _ = _ from ih).trans ?_
      by_cases h2 : fidx (fun x => decide (x = c)) (l.drop (j + 1)) = -1
      · rw [if_pos h2, if_pos h2, if_pos rfl]
      · rw [if_neg h2, if_neg h2, if_neg (by omega)]; congr 1; omega
theorem place_is (k : Nat) (_hk : 1000000000 ≤ k) (l : List Int) (c : Int) (_hl : l.length ≤ 100000000) : sp_wyPlace k l c = some (fidx (fun x => decide (x = c)) l) := by
  refine (place_loop k c l (by omega) l.length k 0 (by omega) (by omega)).trans ?_
  rw [List.drop_zero]
  by_cases h : fidx (fun x => decide (x = c)) l = -1
  · rw [if_pos h, h]
  · rw [if_neg h]; simp

/-! ### The program's search -/
def pl : Nat → List En → List (tState.in × Int)
  | _, [] => []
  | i, e :: L => (e.s, (i : Int)) :: pl (i + 1) L
theorem lk_cons (p : tState.in × Int) (l : List (tState.in × Int)) (t : tState.in) : lk tState I (p :: l) t = if tState.eqv t p.1 = true then some p.2 else lk tState I l t := by
  unfold lk
  rw [List.find?_cons]
  cases tState.eqv t p.1 <;> rfl
theorem lk_pl (t : tState.in) : ∀ (L : List En) (i : Nat), (lk tState I (pl i L) t).isSome = true ↔ t ∈ L.map En.s
  | [], _ => by simp [lk, pl]
  | e :: L, i => by
    have ih := lk_pl t L (i + 1)
    show (lk tState I ((e.s, (i : Int)) :: pl (i + 1) L) t).isSome = true ↔ _
    rw [lk_cons, List.map_cons, List.mem_cons]
    by_cases h : t = e.s
    · rw [if_pos ((stEq _ _).2 h)]; simp [h]
    · rw [if_neg (fun q => h ((stEq _ _).1 q)), ih]
      simp [h]
theorem up_pl (t : tState.in) (n : Int) : ∀ (L : List En) (i : Nat), t ∉ L.map En.s → up tState I (pl i L) t n = pl i L ++ [(t, n)]
  | [], _, _ => rfl
  | e :: L, i, h => by
    rw [List.map_cons, List.mem_cons] at h
    have ih := up_pl t n L (i + 1) (fun q => h (.inr q))
    show (if tState.eqv t e.s = true then _ else _) = _
    rw [if_neg (fun q => h (.inl ((stEq _ _).1 q)))]
    show _ :: up tState I (pl (i + 1) L) t n = _
    rw [ih]; rfl
theorem pl_app (e : En) : ∀ (L : List En) (i : Nat), pl i (L ++ [e]) = pl i L ++ [(e.s, ((i + L.length : Nat) : Int))]
  | [], _ => rfl
  | x :: L, i => by
    have ih := pl_app e L (i + 1)
    show _ :: pl (i + 1) (L ++ [e]) = _
    rw [ih]
    have : i + 1 + L.length = i + (x :: L).length := by simp; omega
    rw [this]; rfl
def chE (e : En) : Int := if e.b < 0 then 0 else chrD e.d
def enc (L : List En) : treach.in := (L.map En.s, L.map En.b, L.map chE, L.map En.f, pl 0 L, ())
theorem re_in (k : Nat) {g : List (List Int)} {w h : Nat} (r : Rc g w h) {s0 : tState.in} (mv : tState.in × (Int × Unit) → Option (tState.in × (Bool × Unit))) (hmv : ∀ s c, mv (s, c, ()) = some (rol s c, flo g (rol s c), ())) (g3 : (tState.in × (Int × Unit) → Option (tState.in × (Bool × Unit))) → ((List tState.in) × ((List Int) × ((List Int) × ((List Int) × ((List (tState.in × Int)) × Unit))))) → Int → Option (Option treach.in)) (q : Nat) : ∀ (m n d : Nat) (L : List En), d + m = 4 → m < n → Inv g s0 L → q < L.length →
    im_reached_l6 k g3 n mv (enc L) (q : Int) (d : Int) = g3 mv (enc (adds g q m d L)) ((q + 1 : Nat) : Int)
  | 0, n + 1, d, L, hd, _, hI, hq => by
    have := hI.bd r
    show im_reached_l6s k _ _ _ _ _ _ = _
    unfold im_reached_l6s
    rw [if_neg (ndt (by omega)), wr (by omega)]
    rfl
  | m + 1, n + 1, d, L, hd, hn, hI, hq => by
    have hb := hI.bd r
    have hfb := hI.fb q hq
    obtain ⟨hI2, hl2⟩ := hI.add hq (d := d) (by omega)
    have ih := re_in k r mv hmv g3 q m n (d + 1) (addE g L q d) (by omega) (by omega) hI2 (by omega)
    show im_reached_l6s k _ _ _ _ _ _ = _
    unfold im_reached_l6s
    have ec : ([110, 101, 115, 119] : List Int).getD (d : Int).toNat 0 = chrD (d : Int) := rfl
    have es : (enc L).1.getD (q : Int).toNat ((0 : Int), (0 : Int), ((0 : Int), (0 : Int), (0 : Int), (0 : Int), (0 : Int), (0 : Int), ()), ()) = (L.getD q e0).s := gmap (z := e0) En.s L _ hq
    have ef : (enc L).2.2.2.1.getD (q : Int).toNat (0 : Int) = (L.getD q e0).f := gmap (z := e0) En.f L _ hq
    have l1 : (enc L).1.length = L.length := List.length_map ..
    have l2 : (enc L).2.1.length = L.length := List.length_map ..
    have l3 : (enc L).2.2.1.length = L.length := List.length_map ..
    have l4 : (enc L).2.2.2.1.length = L.length := List.length_map ..
    have ln : (([110, 101, 115, 119] : List Int).length : Int) = 4 := rfl
    rw [if_pos (dt (by omega)), inb_eq (by rw [l1]; omega), inb_eq (by rw [ln]; omega), ec, es, hmv, Option.bind_some, wr (x := (d : Int) + 1) (by omega)]
    show _ = g3 mv (enc (adds g q m (d + 1) (addE g L q d))) _
    rw [← ih]
    show (if (!flo g (rol (L.getD q e0).s (chrD (d : Int)))) = true then _ else _) = _
    by_cases hf : flo g (rol (L.getD q e0).s (chrD (d : Int))) = true
    · rw [if_neg (by rw [hf]; decide)]
      show (if (lk tState I (pl 0 L) (rol (L.getD q e0).s (chrD (d : Int)))).isSome = true then _ else _) = _
      by_cases hm : rol (L.getD q e0).s (chrD (d : Int)) ∈ L.map En.s
      · rw [if_pos ((lk_pl _ L 0).2 hm)]
        have : addE g L q d = L := by unfold addE; rw [if_neg (fun z => z.2 hm)]
        rw [this]
        rfl
      · rw [if_neg (fun z => hm ((lk_pl _ L 0).1 z)), inb_eq (by rw [ln]; omega), inb_eq (by rw [l4]; omega), if_pos (by rw [l1]; simp; omega), if_pos (by rw [l2]; simp; omega), if_pos (by rw [l3]; simp; omega), if_pos (by rw [l4]; simp; omega), ef, wr (by omega)]
        have he : addE g L q d = L ++ [⟨rol (L.getD q e0).s (chrD (d : Int)), (q : Int), (d : Int), (L.getD q e0).f + 1⟩] := by unfold addE; rw [if_pos ⟨hf, hm⟩]
        rw [he]
        have eu : up tState I (enc L).2.2.2.2.1 (rol (L.getD q e0).s (chrD (d : Int))) ((enc L).1.length : Int) = pl 0 (L ++ [⟨rol (L.getD q e0).s (chrD (d : Int)), (q : Int), (d : Int), (L.getD q e0).f + 1⟩]) := by
          rw [pl_app, l1, Nat.zero_add]
          exact up_pl _ _ L 0 hm
        rw [eu]
        have ecn : chE ⟨rol (L.getD q e0).s (chrD (d : Int)), (q : Int), (d : Int), (L.getD q e0).f + 1⟩ = chrD (d : Int) := if_neg (show ¬ ((q : Int) < 0) by omega)
        unfold enc
        simp only [List.map_append, List.map_cons, List.map_nil, ecn]
        rfl
    · rw [if_pos (by simpa using hf)]
      have : addE g L q d = L := by unfold addE; rw [if_neg (fun z => hf z.1)]
      rw [this]
      rfl

/-! ### The reference's search -/
def zN : twyNode.in := (((0 : Int), (0 : Int), ((0 : Int), (0 : Int), (0 : Int), (0 : Int), (0 : Int), (0 : Int), ()), ()), (0 : Int), (0 : Int), (0 : Int), (0 : Int), (List.replicate 4 (0 : Int)), ())
def setNx (x : twyNode.in) (i v : Int) : twyNode.in := (x.1, x.2.1, x.2.2.1, x.2.2.2.1, x.2.2.2.2.1, x.2.2.2.2.2.1.set i.toNat v, x.2.2.2.2.2.2)
def addW (a b : twyNode.in) : twyNode.in := (a.1, a.2.1, IntKind.i64.wrap (a.2.2.1 + b.2.2.1), a.2.2.2)
abbrev G4 := tboGrid.in → (List twyNode.in) → (List Int) → Int → Option (List twyNode.in)
abbrev G7 := tboGrid.in → (List twyNode.in) → (List Int) → Int → Int → Option (List twyNode.in)
theorem j19_eq (k : Nat) (g4 : G4) (g7 : G7) (x2 : tboGrid.in) (x5 : List twyNode.in) (x6 : List Int) (x7 x8 x11 : Int) :
    sp_wyAll_j19s k g4 g7 x2 x5 x6 x7 x8 x11 = inb x7 x5.length (inb x8 4 (g7 x2 (x5.set x7.toNat (setNx (x5.getD x7.toNat zN) x8 x11)) x6 x7 (IntKind.i64.wrap (x8 + 1)))) := rfl
theorem j17_eq (k : Nat) (c19 : G4 → G7 → tboGrid.in → (List twyNode.in) → (List Int) → Int → Int → Int → Option (List twyNode.in)) (g4 : G4) (g7 : G7) (x2 : tboGrid.in) (x5 : List twyNode.in) (x6 : List Int) (x7 x8 x11 : Int) :
    sp_wyAll_j17s k c19 g4 g7 x2 x5 x6 x7 x8 x11 = inb x11 x5.length (inb x7 x5.length (if decide ((x5.getD x11.toNat zN).2.1 = IntKind.i64.wrap ((x5.getD x7.toNat zN).2.1 + 1)) = true then
      inb x11 x5.length (inb x7 x5.length (inb x11 x5.length (c19 g4 g7 x2 (x5.set x11.toNat (addW (x5.getD x11.toNat zN) (x5.getD x7.toNat zN))) x6 x7 x8 x11))) else c19 g4 g7 x2 x5 x6 x7 x8 x11)) := rfl
theorem l7_eq (k : Nat) (c17 : G4 → G7 → tboGrid.in → (List twyNode.in) → (List Int) → Int → Int → Int → Option (List twyNode.in)) (g4 : G4) (g7 : G7) (x2 : tboGrid.in) (x5 y5 : List twyNode.in) (x6 : List Int) (x7 x8 : Int) (hy : x5.set x7.toNat (setNx (x5.getD x7.toNat zN) x8 (-1)) = y5) :
    sp_wyAll_l7s k c17 g4 g7 x2 x5 x6 x7 x8 = if decide (x8 < 4) = true then inb x7 x5.length (inb x8 4 (inb x7 y5.length ((sp_boRoll k x2 (y5.getD x7.toNat zN).1 x8).bind fun r2 =>
      if (!r2.2.1) = true then g7 x2 y5 x6 x7 (IntKind.i64.wrap (x8 + 1)) else (sp_wyCode k x2 r2.1).bind fun r3 => (sp_wyPlace k x6 r3).bind fun r4 =>
        if decide (r4 < 0) = true then inb x7 y5.length (if y5.length + ([(r2.1, IntKind.i64.wrap ((y5.getD x7.toNat zN).2.1 + 1), (0 : Int), x7, x8, List.replicate 4 (0 : Int), ())] : List twyNode.in).length ≤ 17179869184 then ((sp_wyCode k x2 r2.1).bind fun r5 =>
          if x6.length + ([r5] : List Int).length ≤ 17179869184 then (c17 g4 g7 x2 (y5 ++ [(r2.1, IntKind.i64.wrap ((y5.getD x7.toNat zN).2.1 + 1), (0 : Int), x7, x8, List.replicate 4 (0 : Int), ())]) (x6 ++ [r5]) x7 x8 (y5.length : Int)) else none) else none)
        else c17 g4 g7 x2 y5 x6 x7 x8 r4))) else g4 x2 x5 x6 (IntKind.i64.wrap (x7 + 1)) := by
  subst hy; rfl
def pj (x : twyNode.in) : tState.in × Int × Int × Int := (x.1, x.2.1, x.2.2.2.1, x.2.2.2.2.1)
def pe (e : En) : tState.in × Int × Int × Int := (e.s, e.f, e.b, e.d)
structure Rel (w : Nat) (L : List En) (all : List twyNode.in) (codes : List Int) : Prop where
  a : all.map pj = L.map pe
  c : codes = L.map fun e => codeP w e.s
theorem Rel.len {w : Nat} {L : List En} {all : List twyNode.in} {codes : List Int} (h : Rel w L all codes) : all.length = L.length ∧ codes.length = L.length := by
  have := congrArg List.length h.a
  rw [List.length_map, List.length_map] at this
  exact ⟨this, by rw [h.c, List.length_map]⟩
theorem Rel.at {w : Nat} {L : List En} {all : List twyNode.in} {codes : List Int} (h : Rel w L all codes) {j : Nat} (hj : j < L.length) : pj (all.getD j zN) = pe (L.getD j e0) := by
  rw [← gmap (z := e0) pe L (pj zN) hj, ← h.a, gmap (z := zN) pj all (pj zN) (by rw [h.len.1]; exact hj)]
theorem map_set {α β : Type} {z : α} (f : α → β) (a : α) : ∀ (l : List α) (i : Nat), (i < l.length → f a = f (l.getD i z)) → (l.set i a).map f = l.map f
  | [], _, _ => rfl
  | x :: l, 0, h => by
    have : f a = f x := h (by simp)
    simp [this]
  | x :: l, i + 1, h => by
    have := map_set (z := z) f a l i (fun hi => h (by simpa using hi))
    simp [this]
theorem Rel.set {w : Nat} {L : List En} {all : List twyNode.in} {codes : List Int} (h : Rel w L all codes) (i : Nat) (a : twyNode.in) (ha : pj a = pj (all.getD i zN)) : Rel w L (all.set i a) codes :=
  ⟨(map_set (z := zN) pj a all i (fun _ => ha)).trans h.a, h.c⟩
theorem j17_is (k : Nat) (_hk : 0 < k) {w : Nat} {L : List En} {all : List twyNode.in} {codes : List Int} (h : Rel w L all codes) (g4 : G4) (g7 : G7) (x2 : tboGrid.in) {q d : Nat} {x : Int} (_hq : q < L.length) (_hd : d < 4) (_hx : 0 ≤ x ∧ x < (L.length : Int)) :
    ∃ all', Rel w L all' codes ∧ sp_wyAll_j17 k g4 g7 k x2 all codes (q : Int) (d : Int) x = g7 x2 all' codes (q : Int) ((d + 1 : Nat) : Int) := by
  obtain ⟨k, rfl⟩ : ∃ j, k = j + 1 := ⟨k - 1, by omega⟩
  have hl := h.len.1
  have h19 : ∀ A : List twyNode.in, Rel w L A codes → ∃ all', Rel w L all' codes ∧ sp_wyAll_j19 (k + 1) g4 g7 (k + 1) x2 A codes (q : Int) (d : Int) x = g7 x2 all' codes (q : Int) ((d + 1 : Nat) : Int) := by
    intro A hA
    refine ⟨_, hA.set q (setNx (A.getD q zN) (d : Int) x) rfl, ?_⟩
    show sp_wyAll_j19s (k + 1) g4 g7 _ _ _ _ _ _ = _
    rw [j19_eq, inb_eq (by have := hA.len.1; omega), inb_eq (by omega), wr (by omega)]
    rfl
  show ∃ all', Rel w L all' codes ∧ sp_wyAll_j17s (k + 1) (fun g0 g1 => sp_wyAll_j19 (k + 1) g0 g1 (k + 1)) g4 g7 x2 all codes (q : Int) (d : Int) x = g7 x2 all' codes (q : Int) ((d + 1 : Nat) : Int)
  rw [j17_eq, inb_eq (by omega), inb_eq (by omega)]
  split
  · rw [inb_eq (by omega), inb_eq (by omega), inb_eq (by omega)]
    exact h19 _ (h.set _ _ rfl)
  · exact h19 _ h
theorem wy_in (k : Nat) (hk : 1000000000 ≤ k) {g : List (List Int)} {w h : Nat} (r : Rc g w h) {s0 : tState.in} (g4 : G4) (q : Nat) : ∀ (m n d : Nat) (L : List En) (all : List twyNode.in) (codes : List Int), d + m = 4 → m < n → Inv g s0 L → q < L.length → Rel w L all codes →
    ∃ all' codes', Rel w (adds g q m d L) all' codes' ∧ sp_wyAll_l7 k g4 n (gr g w h) all codes (q : Int) (d : Int) = g4 (gr g w h) all' codes' ((q + 1 : Nat) : Int)
  | 0, n + 1, d, L, all, codes, hd, _, hI, hq, hR => by
    have := hI.bd r
    refine ⟨all, codes, hR, ?_⟩
    show sp_wyAll_l7s k _ _ _ _ _ _ _ _ = _
    rw [l7_eq k _ _ _ _ _ _ _ _ _ rfl, if_neg (ndt (by omega)), wr (by omega)]
    rfl
  | m + 1, n + 1, d, L, all, codes, hd, hn, hI, hq, hR => by
    have hb := hI.bd r
    have hfb := hI.fb q hq
    have hgq := hI.gd _ (gmem (z := e0) L hq)
    have hdir := chrD_dir (d := d) (by omega)
    obtain ⟨hI2, hl2⟩ := hI.add hq (d := d) (by omega)
    have hl := hR.len
    have hR5 : Rel w L (all.set q (setNx (all.getD q zN) (d : Int) (-1))) codes := hR.set q _ rfl
    generalize hy : all.set q (setNx (all.getD q zN) (d : Int) (-1)) = y5 at hR5
    have hl5 := hR5.len.1
    have hat := hR5.at hq
    have es : (y5.getD q zN).1 = (L.getD q e0).s := congrArg Prod.fst hat
    have ef : (y5.getD q zN).2.1 = (L.getD q e0).f := congrArg (fun z => z.2.1) hat
    have eq : (q : Int).toNat = q := by omega
    have ih := fun A C hR => wy_in k hk r g4 q m n (d + 1) (addE g L q d) A C (by omega) (by omega) hI2 (by omega) hR
    show ∃ all' codes', Rel w (adds g q m (d + 1) (addE g L q d)) all' codes' ∧ sp_wyAll_l7s k (fun g0 g1 => sp_wyAll_j17 k g0 g1 k) g4 (sp_wyAll_l7 k g4 n) (gr g w h) all codes (q : Int) (d : Int) = g4 (gr g w h) all' codes' ((q + 1 : Nat) : Int)
    rw [l7_eq k _ _ _ _ _ y5 _ _ _ hy, if_pos (dt (by omega)), inb_eq (by omega), inb_eq (by omega), inb_eq (by omega), eq, es]
    have hro := boRoll_is k r (L.getD q e0).s (chrD (d : Int)) hdir.1
    rw [hdir.2] at hro
    rw [hro, Option.bind_some]
    by_cases hf : flo g (rol (L.getD q e0).s (chrD (d : Int))) = true
    · rw [if_pos hf, if_neg (show ¬ ((!true) = true) by decide)]
      have hdk : dieOk (rol (L.getD q e0).s (chrD (d : Int))).2.2.1 = true := dieOk_rol _ _ hgq.2
      simp only
      rw [code_is k (by omega) r hf hdk, Option.bind_some, place_is k hk codes _ (by omega), Option.bind_some]
      by_cases hm : rol (L.getD q e0).s (chrD (d : Int)) ∈ L.map En.s
      · have hadd : addE g L q d = L := by unfold addE; rw [if_neg (fun z => z.2 hm)]
        have hge := fidx_ge (fun x => decide (x = codeP w (rol (L.getD q e0).s (chrD (d : Int))))) codes
        have hlt := fidx_lt (fun x => decide (x = codeP w (rol (L.getD q e0).s (chrD (d : Int))))) codes
        have hne : fidx (fun x => decide (x = codeP w (rol (L.getD q e0).s (chrD (d : Int))))) codes ≠ -1 := by
          intro z
          obtain ⟨e, he, hes⟩ := List.mem_map.1 hm
          have := (fidx_all _ _).1 z (codeP w e.s) (by rw [hR.c]; exact List.mem_map.2 ⟨e, he, rfl⟩)
          rw [hes] at this
          simp at this
        rw [if_neg (ndt (by omega))]
        obtain ⟨A, hA, eA⟩ := j17_is k (by omega) hR5 g4 (sp_wyAll_l7 k g4 n) (gr g w h) hq (show d < 4 by omega) (x := fidx (fun x => decide (x = codeP w (rol (L.getD q e0).s (chrD (d : Int))))) codes) (by omega)
        rw [hadd] at ih ⊢
        obtain ⟨A', C', hR', e'⟩ := ih A codes hA
        exact ⟨A', C', hR', (show _ = _ from eA).trans e'⟩
      · have hadd : addE g L q d = L ++ [⟨rol (L.getD q e0).s (chrD (d : Int)), (q : Int), (d : Int), (L.getD q e0).f + 1⟩] := by unfold addE; rw [if_pos ⟨hf, hm⟩]
        have hno : fidx (fun x => decide (x = codeP w (rol (L.getD q e0).s (chrD (d : Int))))) codes = -1 := by
          rw [fidx_all]
          intro x hx
          rw [hR.c] at hx
          obtain ⟨e, he, rfl⟩ := List.mem_map.1 hx
          refine decide_eq_false fun z => ?_
          have h1 := hI.gd e he
          exact hm (List.mem_map.2 ⟨e, he, code_inj r h1.1 h1.2 hf hdk z⟩)
        rw [hno, if_pos (by decide), inb_eq (by omega), if_pos (by simp; omega), Option.bind_some, if_pos (by simp; omega), ef, wr (by omega)]
        have hR6 : Rel w (L ++ [⟨rol (L.getD q e0).s (chrD (d : Int)), (q : Int), (d : Int), (L.getD q e0).f + 1⟩]) (y5 ++ [(rol (L.getD q e0).s (chrD (d : Int)), (L.getD q e0).f + 1, (0 : Int), (q : Int), (d : Int), List.replicate 4 (0 : Int), ())]) (codes ++ [codeP w (rol (L.getD q e0).s (chrD (d : Int)))]) :=
          ⟨by rw [List.map_append, List.map_append, hR5.a]; rfl, by rw [List.map_append, hR.c]; rfl⟩
        rw [hadd] at ih ⊢
        obtain ⟨A, hA, eA⟩ := j17_is k (by omega) hR6 g4 (sp_wyAll_l7 k g4 n) (gr g w h) (q := q) (d := d) (x := (y5.length : Int)) (by simp; omega) (by omega) (by simp; omega)
        obtain ⟨A', C', hR', e'⟩ := ih A _ hA
        exact ⟨A', C', hR', (show _ = _ from eA).trans e'⟩
    · rw [if_neg hf, if_pos (show ((!false) = true) by decide), wr (by omega)]
      have hadd : addE g L q d = L := by unfold addE; rw [if_neg (fun z => hf z.1)]
      rw [hadd] at ih ⊢
      obtain ⟨A', C', hR', e'⟩ := ih y5 codes hR5
      exact ⟨A', C', hR', e'⟩

/-! ### Both -/
theorem bfs (k : Nat) (hk : 1000000000 ≤ k) {g : List (List Int)} {w h : Nat} (r : Rc g w h) {s0 : tState.in} (mv : tState.in × (Int × Unit) → Option (tState.in × (Bool × Unit))) (hmv : ∀ s c, mv (s, c, ()) = some (rol s c, flo g (rol s c), ())) : ∀ (n q : Nat) (L : List En) (all : List twyNode.in) (codes : List Int), Inv g s0 L → q ≤ L.length → 49000000 < n + q → Rel w L all codes →
    ∃ L' all' codes', Inv g s0 L' ∧ Rel w L' all' codes' ∧ sp_wyAll_l4 k n (gr g w h) all codes (q : Int) = some all' ∧ im_reached_l3 k n mv (enc L) (q : Int) = some (some (enc L'))
  | 0, q, L, all, codes, hI, hq, hn, hR => by have := hI.bd r; omega
  | n + 1, q, L, all, codes, hI, hq, hn, hR => by
    have hl := hR.len
    have l1 : (enc L).1.length = L.length := List.length_map ..
    show ∃ L' all' codes', Inv g s0 L' ∧ Rel w L' all' codes' ∧ sp_wyAll_l4s k (fun g0 => sp_wyAll_l7 k g0 k) (sp_wyAll_l4 k n) (gr g w h) all codes (q : Int) = some all' ∧ im_reached_l3s k (fun g0 => im_reached_l6 k g0 k) (im_reached_l3 k n) mv (enc L) (q : Int) = some (some (enc L'))
    unfold sp_wyAll_l4s im_reached_l3s
    by_cases hlt : q < L.length
    · rw [if_pos (dt (by omega)), if_pos (dt (by rw [l1]; omega))]
      obtain ⟨A, C, hA, eA⟩ := wy_in k hk r (sp_wyAll_l4 k n) q 4 k 0 L all codes rfl (by omega) hI hlt hR
      have eB := re_in k r (s0 := s0) mv hmv (im_reached_l3 k n) q 4 k 0 L rfl (by omega) hI hlt
      obtain ⟨h1, h2⟩ := Inv.adds 4 0 L hI hlt rfl
      obtain ⟨L', A', C', b1, b2, b3, b4⟩ := bfs k hk r mv hmv n (q + 1) _ A C h1 (by omega) (by omega) hA
      exact ⟨L', A', C', b1, b2, (show _ = _ from eA).trans b3, (show _ = _ from eB).trans b4⟩
    · rw [if_neg (ndt (by omega)), if_neg (ndt (by rw [l1]; omega))]
      exact ⟨L, all, codes, hI, hR, rfl, rfl⟩
theorem reach_is (k : Nat) (hk : 1000000000 ≤ k) {g : List (List Int)} {w h : Nat} (r : Rc g w h) (s0 : tState.in) (hf : flo g s0 = true) (hd : dieOk s0.2.2.1 = true) (mv : tState.in × (Int × Unit) → Option (tState.in × (Bool × Unit))) (hmv : ∀ s c, mv (s, c, ()) = some (rol s c, flo g (rol s c), ())) :
    ∃ L all, Inv g s0 L ∧ all.map pj = L.map pe ∧ sp_wyAll k (gr g w h) s0 = some all ∧ im_reached k s0 mv = some (some (enc L)) := by
  have hI : Inv g s0 [⟨s0, -1, 0, 0⟩] := by
    refine ⟨by simp, fun e he => ?_, rfl, by simp, fun j hj hl => ?_, fun j hl => ?_⟩
    · rw [List.mem_singleton] at he; subst he; exact ⟨hf, hd⟩
    · rw [List.length_singleton] at hl; omega
    · rw [List.length_singleton] at hl
      obtain rfl : j = 0 := by omega
      exact ⟨Int.le_refl _, Int.le_refl _⟩
  obtain ⟨L, A, C, h1, h2, h3, h4⟩ := bfs k hk r (s0 := s0) mv hmv k 0 [⟨s0, -1, 0, 0⟩] [(s0, (0 : Int), (1 : Int), (-1 : Int), (0 : Int), (List.replicate 4 (0 : Int)), ())] [codeP w s0] hI (by simp) (by omega) ⟨rfl, rfl⟩
  refine ⟨L, A, h1, h2.a, ?_, h4⟩
  show (sp_wyCode k (gr g w h) s0).bind _ = _
  rw [code_is k (by omega) r hf hd]
  exact h3
end Ev
/- (loop.example/g01207/impl.State).isAt -/
namespace Ev
open Go Go.Proofs
/-! (impl.State).isAt -/
def im_State_isAt_s (_k : Nat) (x0 : tState.in) (x1 : Int) (x2 : Int) : Option Bool :=
  if (decide (x0.1 = x1)) = true then
    some (decide (x0.2.1 = x2))
  else
    some false
def im_State_isAt (k : Nat) (x0 : tState.in) (x1 : Int) (x2 : Int) : Option Bool := im_State_isAt_s k x0 x1 x2
noncomputable def im_State_isAt_O (k : Nat) : Orc := { ps := [.v tState, .v I, .v I], rt := (.v T.b), F := fun x => im_State_isAt k x.1 x.2.1 x.2.2.1 }
noncomputable def im_State_isAt_E (k : Nat) : Env := { ty := tabTy Tryd_tab, ds := tabDs Tryd_tab, rounds := k, nt := 17, orc := fun _ => none, lp := fun _ => none, ct := fun _ => none, plan := fun _ => none }
noncomputable def im_State_isAt_fin (k : Nat) : Kn Bool := finish (im_State_isAt_E k) [.v tState, .v I, .v I] (.v T.b) Tryd.f114.results.toList
theorem im_State_isAt_st (k : Nat) (x0 : tState.in) (x1 : Int) (x2 : Int) : evFun (im_State_isAt_E k) [.v tState, .v I, .v I] (.v T.b) Tryd.f114 (x0, x1, x2, ()) = im_State_isAt_s k x0 x1 x2 := by kernel_rfl
theorem im_State_isAt_ev (k : Nat) (x0 : tState.in) (x1 : Int) (x2 : Int) : evFun (im_State_isAt_E k) [.v tState, .v I, .v I] (.v T.b) Tryd.f114 (x0, x1, x2, ()) = im_State_isAt k x0 x1 x2 := by
  skip
  rw [im_State_isAt_st]; rfl
theorem im_State_isAt_c (k : Nat) : Contract Tryd.prog 114 (im_State_isAt_O k) :=
  fun_sound (c := bodyOf Tryd.f114) (tab_ok Tryd_tab_ok rfl rfl) orc_nil Tryd.func114 (by kernel_rfl) rfl (by kernel_rfl) (by decide) rfl rfl (by kernel_rfl) (by kernel_rfl) (by kernel_rfl) (fun x _ h => (im_State_isAt_ev k x.1 x.2.1 x.2.2.1).trans h)
end Ev
/- (loop.example/g01207/impl.Puzzle).isGoal -/
namespace Ev
open Go Go.Proofs
/-! (impl.Puzzle).isGoal -/
def im_Puzzle_isGoal_s (k : Nat) (x0 : tPuzzle.in) (x1 : tState.in) : Option Bool :=
  (im_State_isAt k x1 x0.2.2.1 x0.2.2.2.1).bind fun r1 =>
  if r1 = true then
    some (decide (x1.2.2.1.1 = x0.2.2.2.2.1))
  else
    some false
def im_Puzzle_isGoal (k : Nat) (x0 : tPuzzle.in) (x1 : tState.in) : Option Bool := im_Puzzle_isGoal_s k x0 x1
noncomputable def im_Puzzle_isGoal_O (k : Nat) : Orc := { ps := [.v tPuzzle, .v tState], rt := (.v T.b), F := fun x => im_Puzzle_isGoal k x.1 x.2.1 }
noncomputable def im_Puzzle_isGoal_E (k : Nat) : Env := { ty := tabTy Tryd_tab, ds := tabDs Tryd_tab, rounds := k, nt := 19, orc := fun g => if Nat.beq g 114 = true then some (im_State_isAt_O k) else (none), lp := fun _ => none, ct := fun _ => none, plan := fun _ => none }
noncomputable def im_Puzzle_isGoal_fin (k : Nat) : Kn Bool := finish (im_Puzzle_isGoal_E k) [.v tPuzzle, .v tState] (.v T.b) Tryd.f73.results.toList
theorem im_Puzzle_isGoal_st (k : Nat) (x0 : tPuzzle.in) (x1 : tState.in) : evFun (im_Puzzle_isGoal_E k) [.v tPuzzle, .v tState] (.v T.b) Tryd.f73 (x0, x1, ()) = im_Puzzle_isGoal_s k x0 x1 := by kernel_rfl
theorem im_Puzzle_isGoal_ev (k : Nat) (x0 : tPuzzle.in) (x1 : tState.in) : evFun (im_Puzzle_isGoal_E k) [.v tPuzzle, .v tState] (.v T.b) Tryd.f73 (x0, x1, ()) = im_Puzzle_isGoal k x0 x1 := by
  skip
  rw [im_Puzzle_isGoal_st]; rfl
theorem im_Puzzle_isGoal_c (k : Nat) : Contract Tryd.prog 73 (im_Puzzle_isGoal_O k) :=
  fun_sound (c := bodyOf Tryd.f73) (tab_ok Tryd_tab_ok rfl rfl) (orc_cons (im_State_isAt_c k) orc_nil) Tryd.func73 (by kernel_rfl) rfl (by kernel_rfl) (by decide) rfl rfl (by kernel_rfl) (by kernel_rfl) (by kernel_rfl) (fun x _ h => (im_Puzzle_isGoal_ev k x.1 x.2.1).trans h)
end Ev
/- loop.example/g01207/spec.puDone -/
namespace Ev
open Go Go.Proofs
/-! spec.puDone -/
def sp_puDone_s (_k : Nat) (x0 : tPuzzle.in) (x1 : tState.in) : Option Bool :=
  if (decide (x1.1 = x0.2.2.1)) = true then
    if (decide (x1.2.1 = x0.2.2.2.1)) = true then
      some (decide (x1.2.2.1.1 = x0.2.2.2.2.1))
    else
      some false
  else
    some false
def sp_puDone (k : Nat) (x0 : tPuzzle.in) (x1 : tState.in) : Option Bool := sp_puDone_s k x0 x1
noncomputable def sp_puDone_O (k : Nat) : Orc := { ps := [.v tPuzzle, .v tState], rt := (.v T.b), F := fun x => sp_puDone k x.1 x.2.1 }
noncomputable def sp_puDone_E (k : Nat) : Env := { ty := tabTy Tryd_tab, ds := tabDs Tryd_tab, rounds := k, nt := 25, orc := fun _ => none, lp := fun _ => none, ct := fun _ => none, plan := fun _ => none }
noncomputable def sp_puDone_fin (k : Nat) : Kn Bool := finish (sp_puDone_E k) [.v tPuzzle, .v tState] (.v T.b) Tryd.f71.results.toList
theorem sp_puDone_st (k : Nat) (x0 : tPuzzle.in) (x1 : tState.in) : evFun (sp_puDone_E k) [.v tPuzzle, .v tState] (.v T.b) Tryd.f71 (x0, x1, ()) = sp_puDone_s k x0 x1 := by kernel_rfl
theorem sp_puDone_ev (k : Nat) (x0 : tPuzzle.in) (x1 : tState.in) : evFun (sp_puDone_E k) [.v tPuzzle, .v tState] (.v T.b) Tryd.f71 (x0, x1, ()) = sp_puDone k x0 x1 := by
  skip
  rw [sp_puDone_st]; rfl
theorem sp_puDone_c (k : Nat) : Contract Tryd.prog 71 (sp_puDone_O k) :=
  fun_sound (c := bodyOf Tryd.f71) (tab_ok Tryd_tab_ok rfl rfl) orc_nil Tryd.func71 (by kernel_rfl) rfl (by kernel_rfl) (by decide) rfl rfl (by kernel_rfl) (by kernel_rfl) (by kernel_rfl) (fun x _ h => (sp_puDone_ev k x.1 x.2.1).trans h)
end Ev
/- slices.IndexFunc[[]loop.example/g01207/impl.State,loop.example/g01207/impl.State] -/
namespace Ev
open Go Go.Proofs
/-! slices.IndexFunc[[]impl.State,impl.State] -/
@[reducible] def slices_IndexFunc_impl_State_impl_State_l2_L : List (Nat × Sh) := [(0, (.v (.sl tState))), (1, (.v (.fn (.pr tState T.un) T.b))), (7, (.v I)), (8, (.v I))]
def slices_IndexFunc_impl_State_impl_State_l2s (_k : Nat) (g_l2 : (List tState.in) → ((tState.in × Unit) → Option Bool) → Int → Int → Option Int) (x0 : (List tState.in)) (x1 : ((tState.in × Unit) → Option Bool)) (x7 : Int) (x8 : Int) : Option Int :=
  if (decide (x8 < x7)) = true then
    inb x8 x0.length (
      (x1 ((rdT tState x0 x8), ())).bind fun r1 =>
      if r1 = true then
        some x8
      else
        g_l2 x0 x1 x7 (IntKind.i64.wrap (x8 + (1 : Int))))
  else
    some (-1 : Int)
def slices_IndexFunc_impl_State_impl_State_l2 (k : Nat)  : Nat → (List tState.in) → ((tState.in × Unit) → Option Bool) → Int → Int → Option Int
  | 0, _, _, _, _ => none
  | n + 1, x0, x1, x7, x8 => slices_IndexFunc_impl_State_impl_State_l2s k (slices_IndexFunc_impl_State_impl_State_l2 k n) x0 x1 x7 x8
def slices_IndexFunc_impl_State_impl_State_s (_k : Nat) (c_l2 : (List tState.in) → ((tState.in × Unit) → Option Bool) → Int → Int → Option Int) (x0 : (List tState.in)) (x1 : ((tState.in × Unit) → Option Bool)) : Option Int :=
  c_l2 x0 x1 (x0.length : Int) (0 : Int)
def slices_IndexFunc_impl_State_impl_State (k : Nat) (x0 : (List tState.in)) (x1 : ((tState.in × Unit) → Option Bool)) : Option Int := slices_IndexFunc_impl_State_impl_State_s k (slices_IndexFunc_impl_State_impl_State_l2 k k) x0 x1
noncomputable def slices_IndexFunc_impl_State_impl_State_O (k : Nat) : Orc := { ps := [.v (.sl tState), .v (.fn (.pr tState T.un) T.b)], rt := (.v I), F := fun x => slices_IndexFunc_impl_State_impl_State k x.1 x.2.1 }
noncomputable def slices_IndexFunc_impl_State_impl_State_E (k : Nat) : Env := { ty := tabTy Tryd_tab, ds := tabDs Tryd_tab, rounds := k, nt := 19, orc := fun _ => none, lp := fun i => if Nat.beq i 2 = true then some slices_IndexFunc_impl_State_impl_State_l2_L else (none), ct := fun _ => none, plan := fun _ => none }
noncomputable def slices_IndexFunc_impl_State_impl_State_fin (k : Nat) : Kn Int := finish (slices_IndexFunc_impl_State_impl_State_E k) [.v (.sl tState), .v (.fn (.pr tState T.un) T.b)] (.v I) Tryd.f166.results.toList
noncomputable def slices_IndexFunc_impl_State_impl_State_l2_e (k : Nat)  (n : Nat) (x0 : (List tState.in)) (x1 : ((tState.in × Unit) → Option Bool)) (x7 : Int) (x8 : Int) : Option Int := loopF (slices_IndexFunc_impl_State_impl_State_E k) slices_IndexFunc_impl_State_impl_State_l2_L (ev (slices_IndexFunc_impl_State_impl_State_E k) (sub (bodyOf Tryd.f166) [.r, .l, .r, .c, .c])) (kont (slices_IndexFunc_impl_State_impl_State_E k) (bodyOf Tryd.f166) [.r, .l, .r, .c] [] (slices_IndexFunc_impl_State_impl_State_fin k)) n (x0, x1, x7, x8, ())
theorem slices_IndexFunc_impl_State_impl_State_l2_z (k : Nat)  (x0 : (List tState.in)) (x1 : ((tState.in × Unit) → Option Bool)) (x7 : Int) (x8 : Int) : slices_IndexFunc_impl_State_impl_State_l2_e k 0 x0 x1 x7 x8 = none := by kernel_rfl
theorem slices_IndexFunc_impl_State_impl_State_l2_st (k : Nat)  (n : Nat) (x0 : (List tState.in)) (x1 : ((tState.in × Unit) → Option Bool)) (x7 : Int) (x8 : Int) : slices_IndexFunc_impl_State_impl_State_l2_e k (n + 1) x0 x1 x7 x8 = slices_IndexFunc_impl_State_impl_State_l2s k (slices_IndexFunc_impl_State_impl_State_l2_e k n) x0 x1 x7 x8 := by kernel_rfl
theorem slices_IndexFunc_impl_State_impl_State_l2_ev (k : Nat)  : ∀ (n : Nat) (x0 : (List tState.in)) (x1 : ((tState.in × Unit) → Option Bool)) (x7 : Int) (x8 : Int), slices_IndexFunc_impl_State_impl_State_l2_e k n x0 x1 x7 x8 = slices_IndexFunc_impl_State_impl_State_l2 k n x0 x1 x7 x8
  | 0, x0, x1, x7, x8 => slices_IndexFunc_impl_State_impl_State_l2_z k x0 x1 x7 x8
  | n + 1, x0, x1, x7, x8 => by
    have ih : (slices_IndexFunc_impl_State_impl_State_l2_e k n) = slices_IndexFunc_impl_State_impl_State_l2 k n := by funext y0 y1 y2 y3; exact slices_IndexFunc_impl_State_impl_State_l2_ev k n y0 y1 y2 y3
    rw [slices_IndexFunc_impl_State_impl_State_l2_st, ih]; rfl
theorem slices_IndexFunc_impl_State_impl_State_st (k : Nat) (x0 : (List tState.in)) (x1 : ((tState.in × Unit) → Option Bool)) : evFun (slices_IndexFunc_impl_State_impl_State_E k) [.v (.sl tState), .v (.fn (.pr tState T.un) T.b)] (.v I) Tryd.f166 (x0, x1, ()) = slices_IndexFunc_impl_State_impl_State_s k (slices_IndexFunc_impl_State_impl_State_l2_e k k) x0 x1 := by kernel_rfl
theorem slices_IndexFunc_impl_State_impl_State_ev (k : Nat) (x0 : (List tState.in)) (x1 : ((tState.in × Unit) → Option Bool)) : evFun (slices_IndexFunc_impl_State_impl_State_E k) [.v (.sl tState), .v (.fn (.pr tState T.un) T.b)] (.v I) Tryd.f166 (x0, x1, ()) = slices_IndexFunc_impl_State_impl_State k x0 x1 := by
  have h0 : (slices_IndexFunc_impl_State_impl_State_l2_e k k) = (slices_IndexFunc_impl_State_impl_State_l2 k k) := by funext y0 y1 y2 y3; exact slices_IndexFunc_impl_State_impl_State_l2_ev k k y0 y1 y2 y3
  rw [slices_IndexFunc_impl_State_impl_State_st, h0]; rfl
theorem slices_IndexFunc_impl_State_impl_State_c (k : Nat) : Contract Tryd.prog 166 (slices_IndexFunc_impl_State_impl_State_O k) :=
  fun_sound (c := bodyOf Tryd.f166) (tab_ok Tryd_tab_ok rfl rfl) orc_nil Tryd.func166 (by kernel_rfl) rfl (by kernel_rfl) (by decide) rfl rfl (by kernel_rfl) (by kernel_rfl) (by kernel_rfl) (fun x _ h => (slices_IndexFunc_impl_State_impl_State_ev k x.1 x.2.1).trans h)
end Ev
/- Plain laws: goals. -/
namespace Ev
open Go Go.Proofs
/-- What is asked of a puzzle and a word: both sides see the same states. -/
theorem solve_is (k : Nat) (hk : 2097152 ≤ k) (p : tPuzzle.in) (hs : List.length p.1 ≤ 1048576) (s : List Int) :
    (∃ g w h, Rc g w h ∧ puOk g p = true ∧ wordOk s = true ∧ (alo g p.2.1 s).length = s.length + 1 ∧ im_IsPuzzle k p = some true ∧ sp_puGood k p = some true ∧ im_statesAlong k p.1 p.2.1 s = some (alo g p.2.1 s, true, ()) ∧ sp_boWay k p.1 p.2.1 s = some (alo g p.2.1 s, true, ())) ∨
    (im_IsPuzzle k p = some false ∧ sp_puGood k p = some false ∧ ∃ l b, im_statesAlong k p.1 p.2.1 s = some (l, b, ())) ∨
    (im_IsPuzzle k p = some true ∧ sp_puGood k p = some true ∧ ∃ l, im_statesAlong k p.1 p.2.1 s = some (l, false, ()) ∧ sp_boWay k p.1 p.2.1 s = some ([], false, ())) := by
  rcases puz_is k hk p hs with ⟨w, h, b, -, -, h1, h2, h3, h4⟩ | ⟨g, -, h1, h2, h3, h4⟩
  · have hw := way_is k hk p.1 p.2.1 s (spl p.1) [] w h (stOk (spl p.1) p.2.1) (fun _ => b.rc)
    cases hp : puOk (spl p.1) p with
    | true =>
      have ho : stOk (spl p.1) p.2.1 = true := by
        unfold puOk at hp
        rw [Bool.and_eq_true] at hp; exact hp.1
      rw [ho] at hw
      rw [hp] at h3 h4
      rcases hw (by rw [h1, ho]; rfl) (by rw [h2, ho]; rfl) with ⟨-, a2, a3, a4, a5⟩ | ⟨-, l, a4, a5⟩
      · exact .inl ⟨spl p.1, w, h, b.rc, hp, a2, a3, h3, h4, a4, a5⟩
      · exact .inr (.inr ⟨h3, h4, l, a4, a5⟩)
    | false =>
      rw [hp] at h3 h4
      refine .inr (.inl ⟨h3, h4, ?_⟩)
      cases ho : stOk (spl p.1) p.2.1 with
      | true =>
        rw [ho] at hw
        rcases hw (by rw [h1, ho]; rfl) (by rw [h2, ho]; rfl) with ⟨-, a2, a3, a4, a5⟩ | ⟨-, l, a4, a5⟩
        · exact ⟨_, _, a4⟩
        · exact ⟨_, _, a4⟩
      | false =>
        refine ⟨[], false, ?_⟩
        show (im_onBoard k p.1 p.2.1).bind _ = _
        rw [h1, ho]; rfl
  · refine .inr (.inl ⟨h3, h4, [], false, ?_⟩)
    show (im_onBoard k p.1 p.2.1).bind _ = _
    rw [h1]; rfl
def goal (p : tPuzzle.in) (s : tState.in) : Bool := decide (s.1 = p.2.2.1 ∧ s.2.1 = p.2.2.2.1 ∧ s.2.2.1.1 = p.2.2.2.2.1)
theorem isGoal_is (k : Nat) (p : tPuzzle.in) (s : tState.in) : im_Puzzle_isGoal k p s = some (goal p s) := by
  show (Option.bind (if decide (s.1 = p.2.2.1) = true then some (decide (s.2.1 = p.2.2.2.1)) else some false) _) = _
  unfold goal
  by_cases h1 : s.1 = p.2.2.1
  · by_cases h2 : s.2.1 = p.2.2.2.1
    · simp [h1, h2]
    · simp [h1, h2]
  · simp [h1]
theorem puDone_is (k : Nat) (p : tPuzzle.in) (s : tState.in) : sp_puDone k p s = some (goal p s) := by
  show (if decide (s.1 = p.2.2.1) = true then if decide (s.2.1 = p.2.2.2.1) = true then some (decide (s.2.2.1.1 = p.2.2.2.2.1)) else some false else some false) = _
  unfold goal
  by_cases h1 : s.1 = p.2.2.1
  · by_cases h2 : s.2.1 = p.2.2.2.1
    · simp [h1, h2]
    · simp [h1, h2]
  · simp [h1]
theorem idxSt_loop (k : Nat) (p : tState.in → Bool) (f : tState.in × Unit → Option Bool) (hf : ∀ x, f (x, ()) = some (p x)) (l : List tState.in) (hl : l.length ≤ 1000000000) : ∀ (d n j : Nat), l.length = j + d → d < n →
    slices_IndexFunc_impl_State_impl_State_l2 k n l f (l.length : Int) (j : Int) = some (if fidx p (l.drop j) = -1 then -1 else (j : Int) + fidx p (l.drop j))
  | 0, n + 1, j, h, _ => by
    show slices_IndexFunc_impl_State_impl_State_l2s k _ _ _ _ _ = _
    unfold slices_IndexFunc_impl_State_impl_State_l2s
    rw [if_neg (ndt (by omega)), List.drop_of_length_le (by omega)]; rfl
  | d + 1, n + 1, j, h, hn => by
    show slices_IndexFunc_impl_State_impl_State_l2s k _ _ _ _ _ = _
    unfold slices_IndexFunc_impl_State_impl_State_l2s
    have hd := getD_drop l j sz0 (by omega)
    have e1 : rdT tState l (j : Int) = l.getD j sz0 := rfl
    have ih := idxSt_loop k p f hf l hl d n (j + 1) (by omega) (by omega)
    have hg := fidx_ge p (l.drop (j + 1))
    rw [if_pos (dt (by omega)), inb_eq (by omega), e1, hf, Option.bind_some, hd]
    unfold fidx
    by_cases hp : p (l.getD j sz0) = true
    · rw [if_pos hp, if_pos hp, if_neg (by omega)]; simp
    · rw [if_neg hp, if_neg hp, wr (by omega)]
      refine (show _ = _ from ih).trans ?_
      by_cases h2 : fidx p (l.drop (j + 1)) = -1
      · rw [if_pos h2, if_pos h2, if_pos rfl]
      · rw [if_neg h2, if_neg h2, if_neg (by omega)]; congr 1; omega
end Ev
/- loop.example/g01207/spec.puStates -/
namespace Ev
open Go Go.Proofs
/-! spec.puStates -/
@[reducible] def sp_puStates_l6_L : List (Nat × Sh) := [(1, (.bx 33 (.v tPuzzle))), (7, (.o 102 twyNode)), (23, (.al 7)), (24, (.v I)), (25, (.v I))]
def sp_puStates_l6s (k : Nat) (g_l6 : tPuzzle.in → (List twyNode.in) → Unit → Int → Int → Option ((List twyNode.in) × (Int × (Bool × Unit)))) (x1 : tPuzzle.in) (x7 : (List twyNode.in)) (_x23 : Unit) (x24 : Int) (x25 : Int) : Option ((List twyNode.in) × (Int × (Bool × Unit))) :=
  if (decide (x25 < x24)) = true then
    inb x25 x7.length (
      (sp_puDone k x1 (x7.getD (x25).toNat (((0 : Int), (0 : Int), ((0 : Int), (0 : Int), (0 : Int), (0 : Int), (0 : Int), (0 : Int), ()), ()), (0 : Int), (0 : Int), (0 : Int), (0 : Int), (List.replicate 4 (0 : Int)), ())).1).bind fun r4 =>
      if r4 = true then
        some (x7, (x7.getD (x25).toNat (((0 : Int), (0 : Int), ((0 : Int), (0 : Int), (0 : Int), (0 : Int), (0 : Int), (0 : Int), ()), ()), (0 : Int), (0 : Int), (0 : Int), (0 : Int), (List.replicate 4 (0 : Int)), ())).2.1, (decide ((x7.getD (x25).toNat (((0 : Int), (0 : Int), ((0 : Int), (0 : Int), (0 : Int), (0 : Int), (0 : Int), (0 : Int), ()), ()), (0 : Int), (0 : Int), (0 : Int), (0 : Int), (List.replicate 4 (0 : Int)), ())).2.1 ≤ (60 : Int))), ())
      else
        g_l6 x1 x7 () x24 (IntKind.i64.wrap (x25 + (1 : Int))))
  else
    some (([] : List twyNode.in), (0 : Int), false, ())
def sp_puStates_l6 (k : Nat)  : Nat → tPuzzle.in → (List twyNode.in) → Unit → Int → Int → Option ((List twyNode.in) × (Int × (Bool × Unit)))
  | 0, _, _, _, _, _ => none
  | n + 1, x1, x7, x23, x24, x25 => sp_puStates_l6s k (sp_puStates_l6 k n) x1 x7 x23 x24 x25
def sp_puStates_s (k : Nat) (c_l6 : tPuzzle.in → (List twyNode.in) → Unit → Int → Int → Option ((List twyNode.in) × (Int × (Bool × Unit)))) (x0 : tPuzzle.in) : Option ((List twyNode.in) × (Int × (Bool × Unit))) :=
  (sp_puGood k x0).bind fun r1 =>
  if (!r1) = true then
    some (([] : List twyNode.in), (0 : Int), false, ())
  else
    (sp_boRead k x0.1).bind fun r2 =>
    (sp_wyAll k r2.1 x0.2.1).bind fun r3 =>
    c_l6 x0 r3 () (r3.length : Int) (0 : Int)
def sp_puStates (k : Nat) (x0 : tPuzzle.in) : Option ((List twyNode.in) × (Int × (Bool × Unit))) := sp_puStates_s k (sp_puStates_l6 k k) x0
noncomputable def sp_puStates_O (k : Nat) : Orc := { ps := [.v tPuzzle], rt := (.pr (.o 102 twyNode) (.pr (.v I) (.pr (.v T.b) .un))), F := fun x => sp_puStates k x.1 }
noncomputable def sp_puStates_E (k : Nat) : Env := { ty := tabTy Tryd_tab, ds := tabDs Tryd_tab, rounds := k, nt := 40, orc := fun g => if Nat.beq g 43 = true then some (sp_puGood_O k) else (if Nat.beq g 44 = true then some (sp_boRead_O k) else (if Nat.beq g 71 = true then some (sp_puDone_O k) else (if Nat.beq g 106 = true then some (sp_wyAll_O k) else (none)))), lp := fun i => if Nat.beq i 6 = true then some sp_puStates_l6_L else (none), ct := fun _ => none, plan := fun i => if Nat.beq i 9 = true then some [(0, []), (1, []), (2, []), (3, []), (4, []), (5, []), (6, []), (7, []), (8, [])] else (none) }
noncomputable def sp_puStates_fin (k : Nat) : Kn ((List twyNode.in) × (Int × (Bool × Unit))) := finish (sp_puStates_E k) [.v tPuzzle] (.pr (.o 102 twyNode) (.pr (.v I) (.pr (.v T.b) .un))) Tryd.f68.results.toList
noncomputable def sp_puStates_l6_e (k : Nat)  (n : Nat) (x1 : tPuzzle.in) (x7 : (List twyNode.in)) (x23 : Unit) (x24 : Int) (x25 : Int) : Option ((List twyNode.in) × (Int × (Bool × Unit))) := loopF (sp_puStates_E k) sp_puStates_l6_L (ev (sp_puStates_E k) (sub (bodyOf Tryd.f68) [.r, .r, .r, .r, .l, .r, .c, .c])) (kont (sp_puStates_E k) (bodyOf Tryd.f68) [.r, .r, .r, .r, .l, .r, .c] [] (sp_puStates_fin k)) n (x1, x7, x23, x24, x25, ())
theorem sp_puStates_l6_z (k : Nat)  (x1 : tPuzzle.in) (x7 : (List twyNode.in)) (x23 : Unit) (x24 : Int) (x25 : Int) : sp_puStates_l6_e k 0 x1 x7 x23 x24 x25 = none := by kernel_rfl
theorem sp_puStates_l6_st (k : Nat)  (n : Nat) (x1 : tPuzzle.in) (x7 : (List twyNode.in)) (x23 : Unit) (x24 : Int) (x25 : Int) : sp_puStates_l6_e k (n + 1) x1 x7 x23 x24 x25 = sp_puStates_l6s k (sp_puStates_l6_e k n) x1 x7 x23 x24 x25 := by kernel_rfl
theorem sp_puStates_l6_ev (k : Nat)  : ∀ (n : Nat) (x1 : tPuzzle.in) (x7 : (List twyNode.in)) (x23 : Unit) (x24 : Int) (x25 : Int), sp_puStates_l6_e k n x1 x7 x23 x24 x25 = sp_puStates_l6 k n x1 x7 x23 x24 x25
  | 0, x1, x7, x23, x24, x25 => sp_puStates_l6_z k x1 x7 x23 x24 x25
  | n + 1, x1, x7, x23, x24, x25 => by
    have ih : (sp_puStates_l6_e k n) = sp_puStates_l6 k n := by funext y0 y1 y2 y3 y4; exact sp_puStates_l6_ev k n y0 y1 y2 y3 y4
    rw [sp_puStates_l6_st, ih]; rfl
theorem sp_puStates_st (k : Nat) (x0 : tPuzzle.in) : evFun (sp_puStates_E k) [.v tPuzzle] (.pr (.o 102 twyNode) (.pr (.v I) (.pr (.v T.b) .un))) Tryd.f68 (x0, ()) = sp_puStates_s k (sp_puStates_l6_e k k) x0 := by kernel_rfl
theorem sp_puStates_ev (k : Nat) (x0 : tPuzzle.in) : evFun (sp_puStates_E k) [.v tPuzzle] (.pr (.o 102 twyNode) (.pr (.v I) (.pr (.v T.b) .un))) Tryd.f68 (x0, ()) = sp_puStates k x0 := by
  have h0 : (sp_puStates_l6_e k k) = (sp_puStates_l6 k k) := by funext y0 y1 y2 y3 y4; exact sp_puStates_l6_ev k k y0 y1 y2 y3 y4
  rw [sp_puStates_st, h0]; rfl
theorem sp_puStates_c (k : Nat) : Contract Tryd.prog 68 (sp_puStates_O k) :=
  fun_sound (c := bodyOf Tryd.f68) (tab_ok Tryd_tab_ok rfl rfl) (orc_cons (sp_puGood_c k) (orc_cons (sp_boRead_c k) (orc_cons (sp_puDone_c k) (orc_cons (sp_wyAll_c k) orc_nil)))) Tryd.func68 (by kernel_rfl) rfl (by kernel_rfl) (by decide) rfl rfl (by kernel_rfl) (by kernel_rfl) (by kernel_rfl) (fun x _ h => (sp_puStates_ev k x.1).trans h)
end Ev
/- loop.example/g01207/impl.reachOn -/
namespace Ev
open Go Go.Proofs
/-! impl.reachOn -/
def im_reachOn_s (k : Nat) (x0 : (List Int)) (x1 : tState.in) : Option ((Option treach.in) × (Bool × Unit)) :=
  (im_onBoard k x0 x1).bind fun r1 =>
  if (!r1.2.1) = true then
    some ((none : (Option treach.in)), false, ())
  else
    (im_reached k x1 (fun (a2 : (tState.in × (Int × Unit))) => (im_grid_roll k r1.1 a2.1 a2.2.1).bind fun r3 => some (r3.1, r3.2.1, ()))).bind fun r4 =>
    some (r4, true, ())
def im_reachOn (k : Nat) (x0 : (List Int)) (x1 : tState.in) : Option ((Option treach.in) × (Bool × Unit)) := im_reachOn_s k x0 x1
noncomputable def im_reachOn_O (k : Nat) : Orc := { ps := [.v T.s, .v tState], rt := (.pr (.v (.pt treach)) (.pr (.v T.b) .un)), F := fun x => im_reachOn k x.1 x.2.1 }
noncomputable def im_reachOn_E (k : Nat) : Env := { ty := tabTy Tryd_tab, ds := tabDs Tryd_tab, rounds := k, nt := 20, orc := fun g => if Nat.beq g 90 = true then some (im_onBoard_O k) else (if Nat.beq g 113 = true then some (im_grid_roll_O k) else (if Nat.beq g 131 = true then some (im_reached_O k) else (none))), lp := fun _ => none, ct := fun _ => none, plan := fun _ => none }
noncomputable def im_reachOn_fin (k : Nat) : Kn ((Option treach.in) × (Bool × Unit)) := finish (im_reachOn_E k) [.v T.s, .v tState] (.pr (.v (.pt treach)) (.pr (.v T.b) .un)) Tryd.f109.results.toList
theorem im_reachOn_st (k : Nat) (x0 : (List Int)) (x1 : tState.in) : evFun (im_reachOn_E k) [.v T.s, .v tState] (.pr (.v (.pt treach)) (.pr (.v T.b) .un)) Tryd.f109 (x0, x1, ()) = im_reachOn_s k x0 x1 := by kernel_rfl
theorem im_reachOn_ev (k : Nat) (x0 : (List Int)) (x1 : tState.in) : evFun (im_reachOn_E k) [.v T.s, .v tState] (.pr (.v (.pt treach)) (.pr (.v T.b) .un)) Tryd.f109 (x0, x1, ()) = im_reachOn k x0 x1 := by
  skip
  rw [im_reachOn_st]; rfl
theorem im_reachOn_c (k : Nat) : Contract Tryd.prog 109 (im_reachOn_O k) :=
  fun_sound (c := bodyOf Tryd.f109) (tab_ok Tryd_tab_ok rfl rfl) (orc_cons (im_onBoard_c k) (orc_cons (im_grid_roll_c k) (orc_cons (im_reached_c k) orc_nil))) Tryd.func109 (by kernel_rfl) rfl (by kernel_rfl) (by decide) rfl rfl (by kernel_rfl) (by kernel_rfl) (by kernel_rfl) (fun x _ h => (im_reachOn_ev k x.1 x.2.1).trans h)
end Ev
/- loop.example/g01207/impl.reachCell -/
namespace Ev
open Go Go.Proofs
/-! impl.reachCell -/
def im_reachCell_s (k : Nat) (x0 : (List Int)) (x1 : tState.in) (x2 : Int) (x3 : Int) : Option ((Option treach.in) × (Bool × Unit)) :=
  (im_reachOn k x0 x1).bind fun r1 =>
  (im_board k x0).bind fun r2 =>
  if (!r1.2.1) = true then
    some ((none : (Option treach.in)), false, ())
  else
    (im_grid_has k r2.1 x2 x3).bind fun r3 =>
    if (!r3) = true then
      some ((none : (Option treach.in)), false, ())
    else
      some (r1.1, true, ())
def im_reachCell (k : Nat) (x0 : (List Int)) (x1 : tState.in) (x2 : Int) (x3 : Int) : Option ((Option treach.in) × (Bool × Unit)) := im_reachCell_s k x0 x1 x2 x3
noncomputable def im_reachCell_O (k : Nat) : Orc := { ps := [.v T.s, .v tState, .v I, .v I], rt := (.pr (.v (.pt treach)) (.pr (.v T.b) .un)), F := fun x => im_reachCell k x.1 x.2.1 x.2.2.1 x.2.2.2.1 }
noncomputable def im_reachCell_E (k : Nat) : Env := { ty := tabTy Tryd_tab, ds := tabDs Tryd_tab, rounds := k, nt := 35, orc := fun g => if Nat.beq g 49 = true then some (im_board_O k) else (if Nat.beq g 109 = true then some (im_reachOn_O k) else (if Nat.beq g 112 = true then some (im_grid_has_O k) else (none))), lp := fun _ => none, ct := fun _ => none, plan := fun _ => none }
noncomputable def im_reachCell_fin (k : Nat) : Kn ((Option treach.in) × (Bool × Unit)) := finish (im_reachCell_E k) [.v T.s, .v tState, .v I, .v I] (.pr (.v (.pt treach)) (.pr (.v T.b) .un)) Tryd.f150.results.toList
theorem im_reachCell_st (k : Nat) (x0 : (List Int)) (x1 : tState.in) (x2 : Int) (x3 : Int) : evFun (im_reachCell_E k) [.v T.s, .v tState, .v I, .v I] (.pr (.v (.pt treach)) (.pr (.v T.b) .un)) Tryd.f150 (x0, x1, x2, x3, ()) = im_reachCell_s k x0 x1 x2 x3 := by kernel_rfl
theorem im_reachCell_ev (k : Nat) (x0 : (List Int)) (x1 : tState.in) (x2 : Int) (x3 : Int) : evFun (im_reachCell_E k) [.v T.s, .v tState, .v I, .v I] (.pr (.v (.pt treach)) (.pr (.v T.b) .un)) Tryd.f150 (x0, x1, x2, x3, ()) = im_reachCell k x0 x1 x2 x3 := by
  skip
  rw [im_reachCell_st]; rfl
theorem im_reachCell_c (k : Nat) : Contract Tryd.prog 150 (im_reachCell_O k) :=
  fun_sound (c := bodyOf Tryd.f150) (tab_ok Tryd_tab_ok rfl rfl) (orc_cons (im_board_c k) (orc_cons (im_reachOn_c k) (orc_cons (im_grid_has_c k) orc_nil))) Tryd.func150 (by kernel_rfl) rfl (by kernel_rfl) (by decide) rfl rfl (by kernel_rfl) (by kernel_rfl) (by kernel_rfl) (fun x _ h => (im_reachCell_ev k x.1 x.2.1 x.2.2.1 x.2.2.2.1).trans h)
end Ev
/- slices.Reverse[[]byte,byte] -/
namespace Ev
open Go Go.Proofs
/-! slices.Reverse[[]byte,byte] -/
@[reducible] def slices_Reverse_byte_byte_l1_L : List (Nat × Sh) := [(0, (.o 5 (.i .u8))), (2, (.v I)), (3, (.v I))]
def slices_Reverse_byte_byte_l1s (_k : Nat) (g_l1 : (List Int) → Int → Int → Option (Unit × (List Int))) (x0 : (List Int)) (x2 : Int) (x3 : Int) : Option (Unit × (List Int)) :=
  if (decide (x2 < x3)) = true then
    inb x3 x0.length (
      inb x2 x0.length (
        inb x2 x0.length (
          inb x3 (x0.set (x2).toNat (x0.getD (x3).toNat (0 : Int))).length (
            g_l1 ((x0.set (x2).toNat (x0.getD (x3).toNat (0 : Int))).set (x3).toNat (x0.getD (x2).toNat (0 : Int))) (IntKind.i64.wrap (x2 + (1 : Int))) (IntKind.i64.wrap (x3 - (1 : Int)))))))
  else
    some ((), x0)
def slices_Reverse_byte_byte_l1 (k : Nat)  : Nat → (List Int) → Int → Int → Option (Unit × (List Int))
  | 0, _, _, _ => none
  | n + 1, x0, x2, x3 => slices_Reverse_byte_byte_l1s k (slices_Reverse_byte_byte_l1 k n) x0 x2 x3
def slices_Reverse_byte_byte_s (_k : Nat) (c_l1 : (List Int) → Int → Int → Option (Unit × (List Int))) (x0 : (List Int)) : Option (Unit × (List Int)) :=
  c_l1 x0 (0 : Int) (IntKind.i64.wrap ((x0.length : Int) - (1 : Int)))
def slices_Reverse_byte_byte (k : Nat) (x0 : (List Int)) : Option (Unit × (List Int)) := slices_Reverse_byte_byte_s k (slices_Reverse_byte_byte_l1 k k) x0
noncomputable def slices_Reverse_byte_byte_O (k : Nat) : Orc := { ps := [.io 5 (.i .u8)], rt := .un, F := fun x => slices_Reverse_byte_byte k x.1 }
noncomputable def slices_Reverse_byte_byte_E (k : Nat) : Env := { ty := tabTy Tryd_tab, ds := tabDs Tryd_tab, rounds := k, nt := 28, orc := fun _ => none, lp := fun i => if Nat.beq i 1 = true then some slices_Reverse_byte_byte_l1_L else (none), ct := fun _ => none, plan := fun i => if Nat.beq i 3 = true then some [(0, []), (1, []), (2, []), (3, []), (4, []), (5, []), (6, []), (7, []), (8, []), (9, []), (10, []), (11, []), (12, []), (13, []), (14, []), (15, [])] else (none) }
noncomputable def slices_Reverse_byte_byte_fin (k : Nat) : Kn (Unit × (List Int)) := finish (slices_Reverse_byte_byte_E k) [.io 5 (.i .u8)] .un Tryd.f179.results.toList
noncomputable def slices_Reverse_byte_byte_l1_e (k : Nat)  (n : Nat) (x0 : (List Int)) (x2 : Int) (x3 : Int) : Option (Unit × (List Int)) := loopF (slices_Reverse_byte_byte_E k) slices_Reverse_byte_byte_l1_L (ev (slices_Reverse_byte_byte_E k) (sub (bodyOf Tryd.f179) [.r, .c, .c])) (kont (slices_Reverse_byte_byte_E k) (bodyOf Tryd.f179) [.r, .c] [] (slices_Reverse_byte_byte_fin k)) n (x0, x2, x3, ())
theorem slices_Reverse_byte_byte_l1_z (k : Nat)  (x0 : (List Int)) (x2 : Int) (x3 : Int) : slices_Reverse_byte_byte_l1_e k 0 x0 x2 x3 = none := by kernel_rfl
theorem slices_Reverse_byte_byte_l1_st (k : Nat)  (n : Nat) (x0 : (List Int)) (x2 : Int) (x3 : Int) : slices_Reverse_byte_byte_l1_e k (n + 1) x0 x2 x3 = slices_Reverse_byte_byte_l1s k (slices_Reverse_byte_byte_l1_e k n) x0 x2 x3 := by kernel_rfl
theorem slices_Reverse_byte_byte_l1_ev (k : Nat)  : ∀ (n : Nat) (x0 : (List Int)) (x2 : Int) (x3 : Int), slices_Reverse_byte_byte_l1_e k n x0 x2 x3 = slices_Reverse_byte_byte_l1 k n x0 x2 x3
  | 0, x0, x2, x3 => slices_Reverse_byte_byte_l1_z k x0 x2 x3
  | n + 1, x0, x2, x3 => by
    have ih : (slices_Reverse_byte_byte_l1_e k n) = slices_Reverse_byte_byte_l1 k n := by funext y0 y1 y2; exact slices_Reverse_byte_byte_l1_ev k n y0 y1 y2
    rw [slices_Reverse_byte_byte_l1_st, ih]; rfl
theorem slices_Reverse_byte_byte_st (k : Nat) (x0 : (List Int)) : evFun (slices_Reverse_byte_byte_E k) [.io 5 (.i .u8)] .un Tryd.f179 (x0, ()) = slices_Reverse_byte_byte_s k (slices_Reverse_byte_byte_l1_e k k) x0 := by kernel_rfl
theorem slices_Reverse_byte_byte_ev (k : Nat) (x0 : (List Int)) : evFun (slices_Reverse_byte_byte_E k) [.io 5 (.i .u8)] .un Tryd.f179 (x0, ()) = slices_Reverse_byte_byte k x0 := by
  have h0 : (slices_Reverse_byte_byte_l1_e k k) = (slices_Reverse_byte_byte_l1 k k) := by funext y0 y1 y2; exact slices_Reverse_byte_byte_l1_ev k k y0 y1 y2
  rw [slices_Reverse_byte_byte_st, h0]; rfl
theorem slices_Reverse_byte_byte_c (k : Nat) : Contract Tryd.prog 179 (slices_Reverse_byte_byte_O k) :=
  fun_sound (c := bodyOf Tryd.f179) (tab_ok Tryd_tab_ok rfl rfl) orc_nil Tryd.func179 (by kernel_rfl) rfl (by kernel_rfl) (by decide) rfl rfl (by kernel_rfl) (by kernel_rfl) (by kernel_rfl) (fun x _ h => (slices_Reverse_byte_byte_ev k x.1).trans h)
end Ev
/- (*loop.example/g01207/impl.reach).word -/
namespace Ev
open Go Go.Proofs
/-! (*impl.reach).word -/
@[reducible] def im_reach_word_l2_L : List (Nat × Sh) := [(0, (.v (.pt treach))), (1, (.v I)), (6, (.o 5 (.i .u8)))]
def im_reach_word_l2s (k : Nat) (g_l2 : (Option treach.in) → Int → (List Int) → Option ((List Int) × (Bool × Unit))) (x0 : (Option treach.in)) (x1 : Int) (x6 : (List Int)) : Option ((List Int) × (Bool × Unit)) :=
  if (decide ((0 : Int) < x1)) = true then
    (x0).bind fun v1 =>
    inb x1 v1.2.2.1.length (
      if x6.length + ([(rdT (.i .u8) v1.2.2.1 x1)] : List Int).length ≤ 17179869184 then (
        (x0).bind fun v2 =>
        inb x1 v2.2.1.length (
          g_l2 x0 (rdT I v2.2.1 x1) (x6 ++ ([(rdT (.i .u8) v1.2.2.1 x1)] : List Int)))) else none)
  else
    (slices_Reverse_byte_byte k x6).bind fun r3 =>
    if (decide ((60 : Int) < (r3.2.length : Int))) = true then
      some (([] : List Int), false, ())
    else
      some (r3.2, true, ())
def im_reach_word_l2 (k : Nat)  : Nat → (Option treach.in) → Int → (List Int) → Option ((List Int) × (Bool × Unit))
  | 0, _, _, _ => none
  | n + 1, x0, x1, x6 => im_reach_word_l2s k (im_reach_word_l2 k n) x0 x1 x6
def im_reach_word_s (_k : Nat) (c_l2 : (Option treach.in) → Int → (List Int) → Option ((List Int) × (Bool × Unit))) (x0 : (Option treach.in)) (x1 : Int) : Option ((List Int) × (Bool × Unit)) :=
  c_l2 x0 x1 ([] : List Int)
def im_reach_word (k : Nat) (x0 : (Option treach.in)) (x1 : Int) : Option ((List Int) × (Bool × Unit)) := im_reach_word_s k (im_reach_word_l2 k k) x0 x1
noncomputable def im_reach_word_O (k : Nat) : Orc := { ps := [.v (.pt treach), .v I], rt := (.pr (.v T.s) (.pr (.v T.b) .un)), F := fun x => im_reach_word k x.1 x.2.1 }
noncomputable def im_reach_word_E (k : Nat) : Env := { ty := tabTy Tryd_tab, ds := tabDs Tryd_tab, rounds := k, nt := 34, orc := fun g => if Nat.beq g 179 = true then some (slices_Reverse_byte_byte_O k) else (none), lp := fun i => if Nat.beq i 2 = true then some im_reach_word_l2_L else (none), ct := fun _ => none, plan := fun _ => none }
noncomputable def im_reach_word_fin (k : Nat) : Kn ((List Int) × (Bool × Unit)) := finish (im_reach_word_E k) [.v (.pt treach), .v I] (.pr (.v T.s) (.pr (.v T.b) .un)) Tryd.f167.results.toList
noncomputable def im_reach_word_l2_e (k : Nat)  (n : Nat) (x0 : (Option treach.in)) (x1 : Int) (x6 : (List Int)) : Option ((List Int) × (Bool × Unit)) := loopF (im_reach_word_E k) im_reach_word_l2_L (ev (im_reach_word_E k) (sub (bodyOf Tryd.f167) [.r, .r, .l, .c, .c])) (kont (im_reach_word_E k) (bodyOf Tryd.f167) [.r, .r, .l, .c] [] (im_reach_word_fin k)) n (x0, x1, x6, ())
theorem im_reach_word_l2_z (k : Nat)  (x0 : (Option treach.in)) (x1 : Int) (x6 : (List Int)) : im_reach_word_l2_e k 0 x0 x1 x6 = none := by kernel_rfl
theorem im_reach_word_l2_st (k : Nat)  (n : Nat) (x0 : (Option treach.in)) (x1 : Int) (x6 : (List Int)) : im_reach_word_l2_e k (n + 1) x0 x1 x6 = im_reach_word_l2s k (im_reach_word_l2_e k n) x0 x1 x6 := by kernel_rfl
theorem im_reach_word_l2_ev (k : Nat)  : ∀ (n : Nat) (x0 : (Option treach.in)) (x1 : Int) (x6 : (List Int)), im_reach_word_l2_e k n x0 x1 x6 = im_reach_word_l2 k n x0 x1 x6
  | 0, x0, x1, x6 => im_reach_word_l2_z k x0 x1 x6
  | n + 1, x0, x1, x6 => by
    have ih : (im_reach_word_l2_e k n) = im_reach_word_l2 k n := by funext y0 y1 y2; exact im_reach_word_l2_ev k n y0 y1 y2
    rw [im_reach_word_l2_st, ih]; rfl
theorem im_reach_word_st (k : Nat) (x0 : (Option treach.in)) (x1 : Int) : evFun (im_reach_word_E k) [.v (.pt treach), .v I] (.pr (.v T.s) (.pr (.v T.b) .un)) Tryd.f167 (x0, x1, ()) = im_reach_word_s k (im_reach_word_l2_e k k) x0 x1 := by kernel_rfl
theorem im_reach_word_ev (k : Nat) (x0 : (Option treach.in)) (x1 : Int) : evFun (im_reach_word_E k) [.v (.pt treach), .v I] (.pr (.v T.s) (.pr (.v T.b) .un)) Tryd.f167 (x0, x1, ()) = im_reach_word k x0 x1 := by
  have h0 : (im_reach_word_l2_e k k) = (im_reach_word_l2 k k) := by funext y0 y1 y2; exact im_reach_word_l2_ev k k y0 y1 y2
  rw [im_reach_word_st, h0]; rfl
theorem im_reach_word_c (k : Nat) : Contract Tryd.prog 167 (im_reach_word_O k) :=
  fun_sound (c := bodyOf Tryd.f167) (tab_ok Tryd_tab_ok rfl rfl) (orc_cons (slices_Reverse_byte_byte_c k) orc_nil) Tryd.func167 (by kernel_rfl) rfl (by kernel_rfl) (by decide) rfl rfl (by kernel_rfl) (by kernel_rfl) (by kernel_rfl) (fun x _ h => (im_reach_word_ev k x.1 x.2.1).trans h)
end Ev
/- (*loop.example/g01207/impl.reach).wordTo -/
namespace Ev
open Go Go.Proofs
/-! (*impl.reach).wordTo -/
def im_reach_wordTo_s (k : Nat) (x0 : (Option treach.in)) (x1 : ((tState.in × Unit) → Option Bool)) : Option ((List Int) × (Bool × Unit)) :=
  (x0).bind fun v1 =>
  (slices_IndexFunc_impl_State_impl_State k v1.1 x1).bind fun r2 =>
  if (decide (r2 < (0 : Int))) = true then
    some (([] : List Int), false, ())
  else
    (im_reach_word k x0 r2).bind fun r3 =>
    some (r3.1, r3.2.1, ())
def im_reach_wordTo (k : Nat) (x0 : (Option treach.in)) (x1 : ((tState.in × Unit) → Option Bool)) : Option ((List Int) × (Bool × Unit)) := im_reach_wordTo_s k x0 x1
noncomputable def im_reach_wordTo_O (k : Nat) : Orc := { ps := [.v (.pt treach), .v (.fn (.pr tState T.un) T.b)], rt := (.pr (.v T.s) (.pr (.v T.b) .un)), F := fun x => im_reach_wordTo k x.1 x.2.1 }
noncomputable def im_reach_wordTo_E (k : Nat) : Env := { ty := tabTy Tryd_tab, ds := tabDs Tryd_tab, rounds := k, nt := 20, orc := fun g => if Nat.beq g 166 = true then some (slices_IndexFunc_impl_State_impl_State_O k) else (if Nat.beq g 167 = true then some (im_reach_word_O k) else (none)), lp := fun _ => none, ct := fun _ => none, plan := fun _ => none }
noncomputable def im_reach_wordTo_fin (k : Nat) : Kn ((List Int) × (Bool × Unit)) := finish (im_reach_wordTo_E k) [.v (.pt treach), .v (.fn (.pr tState T.un) T.b)] (.pr (.v T.s) (.pr (.v T.b) .un)) Tryd.f151.results.toList
theorem im_reach_wordTo_st (k : Nat) (x0 : (Option treach.in)) (x1 : ((tState.in × Unit) → Option Bool)) : evFun (im_reach_wordTo_E k) [.v (.pt treach), .v (.fn (.pr tState T.un) T.b)] (.pr (.v T.s) (.pr (.v T.b) .un)) Tryd.f151 (x0, x1, ()) = im_reach_wordTo_s k x0 x1 := by kernel_rfl
theorem im_reach_wordTo_ev (k : Nat) (x0 : (Option treach.in)) (x1 : ((tState.in × Unit) → Option Bool)) : evFun (im_reach_wordTo_E k) [.v (.pt treach), .v (.fn (.pr tState T.un) T.b)] (.pr (.v T.s) (.pr (.v T.b) .un)) Tryd.f151 (x0, x1, ()) = im_reach_wordTo k x0 x1 := by
  skip
  rw [im_reach_wordTo_st]; rfl
theorem im_reach_wordTo_c (k : Nat) : Contract Tryd.prog 151 (im_reach_wordTo_O k) :=
  fun_sound (c := bodyOf Tryd.f151) (tab_ok Tryd_tab_ok rfl rfl) (orc_cons (slices_IndexFunc_impl_State_impl_State_c k) (orc_cons (im_reach_word_c k) orc_nil)) Tryd.func151 (by kernel_rfl) rfl (by kernel_rfl) (by decide) rfl rfl (by kernel_rfl) (by kernel_rfl) (by kernel_rfl) (fun x _ h => (im_reach_wordTo_ev k x.1 x.2.1).trans h)
end Ev
/- loop.example/g01207/impl.WayToTop$1 -/
namespace Ev
open Go Go.Proofs
/-! impl.WayToTop$1 -/
def im_WayToTop_1_s (k : Nat) (x0 : tState.in) (x1 : Int) (x2 : Int) (x3 : Int) : Option Bool :=
  (im_State_isAt k x0 x1 x2).bind fun r1 =>
  if r1 = true then
    some (decide (x0.2.2.1.1 = x3))
  else
    some false
def im_WayToTop_1 (k : Nat) (x0 : tState.in) (x1 : Int) (x2 : Int) (x3 : Int) : Option Bool := im_WayToTop_1_s k x0 x1 x2 x3
noncomputable def im_WayToTop_1_O (k : Nat) : Orc := { ps := [.v tState, .v (.pt I), .v (.pt I), .v (.pt I)], rt := (.v T.b), F := fun x => Option.bind x.2.1 fun y1 => Option.bind x.2.2.1 fun y2 => Option.bind x.2.2.2.1 fun y3 => im_WayToTop_1 k x.1 y1 y2 y3 }
noncomputable def im_WayToTop_1_E (k : Nat) : Env := { ty := tabTy Tryd_tab, ds := tabDs Tryd_tab, rounds := k, nt := 17, orc := fun g => if Nat.beq g 114 = true then some (im_State_isAt_O k) else (none), lp := fun _ => none, ct := fun _ => none, plan := fun _ => none }
noncomputable def im_WayToTop_1_fin (k : Nat) : Kn Bool := finish (im_WayToTop_1_E k) [.v tState, .v (.pt I), .v (.pt I), .v (.pt I)] (.v T.b) Tryd.f152.results.toList
theorem im_WayToTop_1_st (k : Nat) (x0 : tState.in) (x1 : Int) (x2 : Int) (x3 : Int) : evFun (im_WayToTop_1_E k) [.v tState, .v (.pt I), .v (.pt I), .v (.pt I)] (.v T.b) Tryd.f152 (x0, (some x1), (some x2), (some x3), ()) = im_WayToTop_1_s k x0 x1 x2 x3 := by kernel_rfl
theorem im_WayToTop_1_ev (k : Nat) (x0 : tState.in) (x1 : Int) (x2 : Int) (x3 : Int) : evFun (im_WayToTop_1_E k) [.v tState, .v (.pt I), .v (.pt I), .v (.pt I)] (.v T.b) Tryd.f152 (x0, (some x1), (some x2), (some x3), ()) = im_WayToTop_1 k x0 x1 x2 x3 := by
  skip
  rw [im_WayToTop_1_st]; rfl
theorem im_WayToTop_1_c (k : Nat) : Contract Tryd.prog 152 (im_WayToTop_1_O k) :=
  fun_sound (c := bodyOf Tryd.f152) (tab_ok Tryd_tab_ok rfl rfl) (orc_cons (im_State_isAt_c k) orc_nil) Tryd.func152 (by kernel_rfl) rfl (by kernel_rfl) (by decide) rfl rfl (by kernel_rfl) (by kernel_rfl) (by kernel_rfl) (fun x y h => by
    obtain ⟨z0, z1, z2, z3, _⟩ := x
    cases z1 with
    | none => cases h
    | some z1 =>
    cases z2 with
    | none => cases h
    | some z2 =>
    cases z3 with
    | none => cases h
    | some z3 =>
    exact (im_WayToTop_1_ev k z0 z1 z2 z3).trans h)
end Ev
/- loop.example/g01207/impl.WayToTop -/
namespace Ev
open Go Go.Proofs
/-! impl.WayToTop -/
def im_WayToTop_s (k : Nat) (x0 : (List Int)) (x1 : tState.in) (x2 : Int) (x3 : Int) (x4 : Int) : Option ((List Int) × (Bool × Unit)) :=
  (im_reachCell k x0 x1 x2 x3).bind fun r1 =>
  if (!r1.2.1) = true then
    some (([] : List Int), false, ())
  else
    (im_in k x4 (0 : Int) (9 : Int)).bind fun r2 =>
    if (!r2) = true then
      some (([] : List Int), false, ())
    else
      (im_reach_wordTo k r1.1 (fun (a3 : (tState.in × Unit)) => (im_WayToTop_1 k a3.1 x2 x3 x4).bind fun r4 => some r4)).bind fun r5 =>
      some (r5.1, r5.2.1, ())
def im_WayToTop (k : Nat) (x0 : (List Int)) (x1 : tState.in) (x2 : Int) (x3 : Int) (x4 : Int) : Option ((List Int) × (Bool × Unit)) := im_WayToTop_s k x0 x1 x2 x3 x4
noncomputable def im_WayToTop_O (k : Nat) : Orc := { ps := [.v T.s, .v tState, .v I, .v I, .v I], rt := (.pr (.v T.s) (.pr (.v T.b) .un)), F := fun x => im_WayToTop k x.1 x.2.1 x.2.2.1 x.2.2.2.1 x.2.2.2.2.1 }
noncomputable def im_WayToTop_E (k : Nat) : Env := { ty := tabTy Tryd_tab, ds := tabDs Tryd_tab, rounds := k, nt := 34, orc := fun g => if Nat.beq g 85 = true then some (im_in_O k) else (if Nat.beq g 150 = true then some (im_reachCell_O k) else (if Nat.beq g 151 = true then some (im_reach_wordTo_O k) else (if Nat.beq g 152 = true then some (im_WayToTop_1_O k) else (none)))), lp := fun _ => none, ct := fun _ => none, plan := fun _ => none }
noncomputable def im_WayToTop_fin (k : Nat) : Kn ((List Int) × (Bool × Unit)) := finish (im_WayToTop_E k) [.v T.s, .v tState, .v I, .v I, .v I] (.pr (.v T.s) (.pr (.v T.b) .un)) Tryd.f133.results.toList
theorem im_WayToTop_st (k : Nat) (x0 : (List Int)) (x1 : tState.in) (x2 : Int) (x3 : Int) (x4 : Int) : evFun (im_WayToTop_E k) [.v T.s, .v tState, .v I, .v I, .v I] (.pr (.v T.s) (.pr (.v T.b) .un)) Tryd.f133 (x0, x1, x2, x3, x4, ()) = im_WayToTop_s k x0 x1 x2 x3 x4 := by kernel_rfl
theorem im_WayToTop_ev (k : Nat) (x0 : (List Int)) (x1 : tState.in) (x2 : Int) (x3 : Int) (x4 : Int) : evFun (im_WayToTop_E k) [.v T.s, .v tState, .v I, .v I, .v I] (.pr (.v T.s) (.pr (.v T.b) .un)) Tryd.f133 (x0, x1, x2, x3, x4, ()) = im_WayToTop k x0 x1 x2 x3 x4 := by
  skip
  rw [im_WayToTop_st]; rfl
theorem im_WayToTop_c (k : Nat) : Contract Tryd.prog 133 (im_WayToTop_O k) :=
  fun_sound (c := bodyOf Tryd.f133) (tab_ok Tryd_tab_ok rfl rfl) (orc_cons (im_in_c k) (orc_cons (im_reachCell_c k) (orc_cons (im_reach_wordTo_c k) (orc_cons (im_WayToTop_1_c k) orc_nil)))) Tryd.func133 (by kernel_rfl) rfl (by kernel_rfl) (by decide) rfl rfl (by kernel_rfl) (by kernel_rfl) (by kernel_rfl) (fun x _ h => (im_WayToTop_ev k x.1 x.2.1 x.2.2.1 x.2.2.2.1 x.2.2.2.2.1).trans h)
end Ev
/- loop.example/g01207/impl.SolutionOf -/
namespace Ev
open Go Go.Proofs
/-! impl.SolutionOf -/
def im_SolutionOf_s (k : Nat) (x0 : tPuzzle.in) : Option ((List Int) × (Bool × Unit)) :=
  (im_IsPuzzle k x0).bind fun r1 =>
  if (!r1) = true then
    some (([] : List Int), false, ())
  else
    (im_WayToTop k x0.1 x0.2.1 x0.2.2.1 x0.2.2.2.1 x0.2.2.2.2.1).bind fun r2 =>
    some (r2.1, r2.2.1, ())
def im_SolutionOf (k : Nat) (x0 : tPuzzle.in) : Option ((List Int) × (Bool × Unit)) := im_SolutionOf_s k x0
noncomputable def im_SolutionOf_O (k : Nat) : Orc := { ps := [.v tPuzzle], rt := (.pr (.v T.s) (.pr (.v T.b) .un)), F := fun x => im_SolutionOf k x.1 }
noncomputable def im_SolutionOf_E (k : Nat) : Env := { ty := tabTy Tryd_tab, ds := tabDs Tryd_tab, rounds := k, nt := 20, orc := fun g => if Nat.beq g 48 = true then some (im_IsPuzzle_O k) else (if Nat.beq g 133 = true then some (im_WayToTop_O k) else (none)), lp := fun _ => none, ct := fun _ => none, plan := fun _ => none }
noncomputable def im_SolutionOf_fin (k : Nat) : Kn ((List Int) × (Bool × Unit)) := finish (im_SolutionOf_E k) [.v tPuzzle] (.pr (.v T.s) (.pr (.v T.b) .un)) Tryd.f111.results.toList
theorem im_SolutionOf_st (k : Nat) (x0 : tPuzzle.in) : evFun (im_SolutionOf_E k) [.v tPuzzle] (.pr (.v T.s) (.pr (.v T.b) .un)) Tryd.f111 (x0, ()) = im_SolutionOf_s k x0 := by kernel_rfl
theorem im_SolutionOf_ev (k : Nat) (x0 : tPuzzle.in) : evFun (im_SolutionOf_E k) [.v tPuzzle] (.pr (.v T.s) (.pr (.v T.b) .un)) Tryd.f111 (x0, ()) = im_SolutionOf k x0 := by
  skip
  rw [im_SolutionOf_st]; rfl
theorem im_SolutionOf_c (k : Nat) : Contract Tryd.prog 111 (im_SolutionOf_O k) :=
  fun_sound (c := bodyOf Tryd.f111) (tab_ok Tryd_tab_ok rfl rfl) (orc_cons (im_IsPuzzle_c k) (orc_cons (im_WayToTop_c k) orc_nil)) Tryd.func111 (by kernel_rfl) rfl (by kernel_rfl) (by decide) rfl rfl (by kernel_rfl) (by kernel_rfl) (by kernel_rfl) (fun x _ h => (im_SolutionOf_ev k x.1).trans h)
end Ev
/- Plain laws: the shortest word to a goal. -/
namespace Ev
open Go

theorem rev_loop (k : Nat) : ∀ (n : Nat) (A M B : List Int), M.length < n → A.length + M.length ≤ 1000000000 →
    slices_Reverse_byte_byte_l1 k n (A ++ M ++ B) (A.length : Int) ((A.length : Int) + (M.length : Int) - 1) = some ((), A ++ M.reverse ++ B)
  | n + 1, A, M, B, hn, hl => by
    show slices_Reverse_byte_byte_l1s k _ _ _ _ = _
    unfold slices_Reverse_byte_byte_l1s
    cases M with
    | nil => rw [if_neg (ndt (by simp; omega))]; simp
    | cons a t =>
      rcases List.eq_nil_or_concat t with rfl | ⟨M, b, rfl⟩
      · rw [if_neg (ndt (by simp))]; simp
      · simp only [List.concat_eq_append, List.length_cons, List.length_append, List.length_nil] at hn hl
        have e0 : A ++ a :: (M.concat b) ++ B = A ++ a :: (M ++ b :: B) := by simp
        have e1 : A ++ a :: (M ++ b :: B) = (A ++ a :: M) ++ b :: B := by simp
        have e2 : (A.length : Int) + ((a :: M.concat b).length : Int) - 1 = (((A ++ a :: M).length : Nat) : Int) := by simp; omega
        have n1 : (A.length : Int).toNat = A.length := by omega
        have n2 : (((A ++ a :: M).length : Nat) : Int).toNat = (A ++ a :: M).length := by omega
        have g1 : (A ++ a :: (M ++ b :: B)).getD A.length 0 = a := app_getD _ _ _
        have g2 : (A ++ a :: (M ++ b :: B)).getD (A ++ a :: M).length 0 = b := by rw [e1]; exact app_getD _ _ _
        have hlen : (A ++ a :: M).length < (A ++ a :: (M ++ b :: B)).length := by simp
        have hlen2 : A.length < (A ++ a :: M).length := by simp
        have s1 : (A ++ a :: (M ++ b :: B)).set A.length b = A ++ b :: (M ++ b :: B) := app_set _ _ _ _
        have s2 : (A ++ b :: (M ++ b :: B)).set (A ++ a :: M).length a = (A ++ [b]) ++ M ++ (a :: B) := by
          have : A ++ b :: (M ++ b :: B) = (A ++ b :: M) ++ b :: B := by simp
          have h3 : (A ++ a :: M).length = (A ++ b :: M).length := by simp
          rw [this, h3, app_set]; simp
        rw [e0, e2, if_pos (dt (by omega)), inb_eq (by omega), inb_eq (by omega), inb_eq (by omega), n1, n2, g1, g2, s1, inb_eq (by simp; omega), s2, wr (by omega), wr (by simp; omega)]
        have e3 : (A.length : Int) + 1 = ((A ++ [b]).length : Int) := by simp
        have e4 : (((A ++ a :: M).length : Nat) : Int) - 1 = ((A ++ [b]).length : Int) + (M.length : Int) - 1 := by simp; omega
        rw [e3, e4]
        refine (rev_loop k n (A ++ [b]) M (a :: B) (by omega) (by simp; omega)).trans ?_
        simp
theorem reverse_is (k : Nat) (l : List Int) (hl : l.length < k) (_hb : l.length ≤ 1000000000) : slices_Reverse_byte_byte k l = some ((), l.reverse) := by
  have := rev_loop k k [] l [] hl (by simp; omega)
  simp only [List.nil_append, List.append_nil, List.length_nil] at this
  show slices_Reverse_byte_byte_l1 k k l 0 (IntKind.i64.wrap ((l.length : Int) - 1)) = _
  rw [wr (by omega)]
  have e : ((0 : Nat) : Int) + (l.length : Int) - 1 = (l.length : Int) - 1 := by omega
  rw [e] at this
  exact this
/-- The word to a state that is found. -/
inductive WPath (L : List En) : Nat → List Int → Prop
  | z : WPath L 0 []
  | s {i j d : Nat} {w : List Int} (h1 : 0 < j) (h2 : j < L.length) (h3 : (L.getD j e0).b = (i : Int)) (h4 : i < j) (h5 : d < 4) (h6 : (L.getD j e0).d = (d : Int)) (p : WPath L i w) : WPath L j (w ++ [chrD (d : Int)])
theorem Inv.path {g : List (List Int)} {s0 : tState.in} {L : List En} (h : Inv g s0 L) : ∀ (j : Nat), j < L.length → ∃ w, WPath L j w ∧ (w.length : Int) = (L.getD j e0).f := by
  intro j
  induction j using Nat.strongRecOn with
  | _ j ih =>
    intro hj
    by_cases h0 : j = 0
    · subst h0
      exact ⟨[], .z, by rw [h.r0]; rfl⟩
    · obtain ⟨i, d, h1, h2, h3, h4, h5, h6⟩ := h.fr j (by omega) hj
      obtain ⟨w, hw, hl⟩ := ih i h2 (by omega)
      exact ⟨w ++ [chrD (d : Int)], .s (by omega) hj h1 h2 h4 h5 hw, by rw [h3, ← hl]; simp⟩
theorem word_im (k : Nat) (_hk : 1000000000 ≤ k) {L : List En} (_hL : L.length ≤ 49000000) : ∀ {j : Nat} {w : List Int}, WPath L j w → ∀ (n : Nat) (x6 : List Int), w.length < n → x6.length + w.length ≤ 50000000 →
    im_reach_word_l2 k n (some (enc L)) (j : Int) x6 = if 60 < x6.length + w.length then some ([], false, ()) else some ((x6 ++ w.reverse).reverse, true, ()) := by
  intro j w hp
  induction hp with
  | z =>
    intro n x6 hn hx
    obtain ⟨n, rfl⟩ : ∃ m, n = m + 1 := ⟨n - 1, by omega⟩
    show im_reach_word_l2s k _ _ _ _ = _
    unfold im_reach_word_l2s
    rw [if_neg (ndt (by decide)), reverse_is k x6 (by simp at hx; omega) (by simp at hx; omega), Option.bind_some]
    by_cases h : 60 < x6.length
    · rw [if_pos (dt (by simp; omega)), if_pos (by simp; omega)]
    · rw [if_neg (ndt (by simp; omega)), if_neg (by simp; omega)]; simp
  | @s i j d w h1 h2 h3 h4 h5 h6 p ih =>
    intro n x6 hn hx
    rw [List.length_append, List.length_singleton] at hn hx
    obtain ⟨n, rfl⟩ : ∃ m, n = m + 1 := ⟨n - 1, by omega⟩
    show im_reach_word_l2s k _ _ _ _ = _
    unfold im_reach_word_l2s
    have er : rdT (.i .u8) (enc L).2.2.1 (j : Int) = chrD (d : Int) := by
      show (L.map chE).getD j 0 = _
      rw [gmap (z := e0) chE L 0 h2]
      unfold chE
      rw [h3, if_neg (by omega), h6]
    have ef : rdT I (enc L).2.1 (j : Int) = (i : Int) := by
      show (L.map En.b).getD j 0 = _
      rw [gmap (z := e0) En.b L 0 h2, h3]
    have l2 : (enc L).2.1.length = L.length := List.length_map ..
    have l3 : (enc L).2.2.1.length = L.length := List.length_map ..
    rw [if_pos (dt (by omega)), Option.bind_some, inb_eq (by rw [l3]; omega), er, if_pos (by simp; omega), Option.bind_some, inb_eq (by rw [l2]; omega), ef, ih n _ (by omega) (by simp; omega)]
    have e7 : (x6 ++ [chrD (d : Int)]).length + w.length = x6.length + (w ++ [chrD (d : Int)]).length := by simp; omega
    have e8 : (x6 ++ [chrD (d : Int)]) ++ w.reverse = x6 ++ (w ++ [chrD (d : Int)]).reverse := by simp
    rw [e7, e8]
theorem pj_at {L : List En} {all : List twyNode.in} (h : all.map pj = L.map pe) {j : Nat} (hj : j < L.length) : pj (all.getD j zN) = pe (L.getD j e0) := Rel.at (w := 0) ⟨h, rfl⟩ hj
theorem pj_len {L : List En} {all : List twyNode.in} (h : all.map pj = L.map pe) : all.length = L.length := (Rel.len (w := 0) ⟨h, rfl⟩).1
/-! ### The first goal -/
theorem first_or {α : Type} (z : α) (p : α → Bool) : ∀ l : List α, (∀ x ∈ l, p x = false) ∨ ∃ i, i < l.length ∧ p (l.getD i z) = true ∧ ∀ j, j < i → p (l.getD j z) = false
  | [] => .inl fun _ h => by cases h
  | x :: l => by
    by_cases h : p x = true
    · exact .inr ⟨0, by simp, h, fun j hj => absurd hj (Nat.not_lt_zero j)⟩
    · rcases first_or z p l with h1 | ⟨i, h1, h2, h3⟩
      · refine .inl fun y hy => ?_
        rcases List.mem_cons.1 hy with rfl | hy
        · simpa using h
        · exact h1 y hy
      · refine .inr ⟨i + 1, by simpa using h1, h2, fun j hj => ?_⟩
        cases j with
        | zero => simpa using h
        | succ j => exact h3 j (by omega)
theorem fidx_first {α : Type} (z : α) (p : α → Bool) : ∀ (l : List α) (i : Nat), i < l.length → p (l.getD i z) = true → (∀ j, j < i → p (l.getD j z) = false) → fidx p l = (i : Int)
  | [], _, h, _, _ => by cases h
  | x :: l, 0, _, h, _ => by
    have h : p x = true := h
    unfold fidx
    rw [if_pos h]; rfl
  | x :: l, i + 1, hi, h, hn => by
    have h0 : p x = false := hn 0 (by omega)
    have ih := fidx_first z p l i (by simpa using hi) h (fun j hj => hn (j + 1) (by omega))
    unfold fidx
    rw [if_neg (by simp [h0]), ih, if_neg (by omega)]; rfl
theorem pu_none (k : Nat) (p : tPuzzle.in) {L : List En} {all : List twyNode.in} (ha : all.map pj = L.map pe) (hL : L.length ≤ 49000000) (hno : ∀ e ∈ L, goal p e.s = false) : ∀ (d n j : Nat), L.length = j + d → d < n →
    sp_puStates_l6 k n p all () (all.length : Int) (j : Int) = some ([], 0, false, ())
  | 0, n + 1, j, hj, _ => by
    have hl := pj_len ha
    show sp_puStates_l6s k _ _ _ _ _ _ = _
    unfold sp_puStates_l6s
    rw [if_neg (ndt (by omega))]
  | d + 1, n + 1, j, hj, hn => by
    have hl := pj_len ha
    show sp_puStates_l6s k _ _ _ _ _ _ = _
    unfold sp_puStates_l6s
    have e1 : (all.getD (j : Int).toNat (((0 : Int), (0 : Int), ((0 : Int), (0 : Int), (0 : Int), (0 : Int), (0 : Int), (0 : Int), ()), ()), (0 : Int), (0 : Int), (0 : Int), (0 : Int), (List.replicate 4 (0 : Int)), ())).1 = (L.getD j e0).s := congrArg Prod.fst (pj_at ha (j := j) (by omega))
    have hg := hno _ (gmem (z := e0) L (j := j) (by omega))
    rw [if_pos (dt (by omega)), inb_eq (by omega), e1, puDone_is, hg, Option.bind_some, if_neg (by decide), wr (by omega)]
    exact pu_none k p ha hL hno d n (j + 1) (by omega) (by omega)
theorem pu_first (k : Nat) (p : tPuzzle.in) {L : List En} {all : List twyNode.in} (ha : all.map pj = L.map pe) (hL : L.length ≤ 49000000) {i : Nat} (hi : i < L.length) (hg : goal p (L.getD i e0).s = true) (hno : ∀ j, j < i → goal p (L.getD j e0).s = false) : ∀ (d n j : Nat), i = j + d → d < n →
    sp_puStates_l6 k n p all () (all.length : Int) (j : Int) = some (all, (L.getD i e0).f, decide ((L.getD i e0).f ≤ 60), ())
  | 0, n + 1, j, hj, _ => by
    have hl := pj_len ha
    show sp_puStates_l6s k _ _ _ _ _ _ = _
    unfold sp_puStates_l6s
    have hji : i = j := by omega
    subst hji
    have e1 : (all.getD (i : Int).toNat (((0 : Int), (0 : Int), ((0 : Int), (0 : Int), (0 : Int), (0 : Int), (0 : Int), (0 : Int), ()), ()), (0 : Int), (0 : Int), (0 : Int), (0 : Int), (List.replicate 4 (0 : Int)), ())).1 = (L.getD i e0).s := congrArg Prod.fst (pj_at ha hi)
    have e2 : (all.getD (i : Int).toNat (((0 : Int), (0 : Int), ((0 : Int), (0 : Int), (0 : Int), (0 : Int), (0 : Int), (0 : Int), ()), ()), (0 : Int), (0 : Int), (0 : Int), (0 : Int), (List.replicate 4 (0 : Int)), ())).2.1 = (L.getD i e0).f := congrArg (fun z => z.2.1) (pj_at ha hi)
    rw [if_pos (dt (by omega)), inb_eq (by omega), e1, e2, puDone_is, hg, Option.bind_some, if_pos rfl]
  | d + 1, n + 1, j, hj, hn => by
    have hl := pj_len ha
    show sp_puStates_l6s k _ _ _ _ _ _ = _
    unfold sp_puStates_l6s
    have e1 : (all.getD (j : Int).toNat (((0 : Int), (0 : Int), ((0 : Int), (0 : Int), (0 : Int), (0 : Int), (0 : Int), (0 : Int), ()), ()), (0 : Int), (0 : Int), (0 : Int), (0 : Int), (List.replicate 4 (0 : Int)), ())).1 = (L.getD j e0).s := congrArg Prod.fst (pj_at ha (j := j) (by omega))
    rw [if_pos (dt (by omega)), inb_eq (by omega), e1, puDone_is, hno j (by omega), Option.bind_some, if_neg (by decide), wr (by omega)]
    exact pu_first k p ha hL hi hg hno d n (j + 1) (by omega) (by omega)
theorem isGoal1_is (k : Nat) (p : tPuzzle.in) (s : tState.in) : im_WayToTop_1 k s p.2.2.1 p.2.2.2.1 p.2.2.2.2.1 = some (goal p s) := by
  show (Option.bind (if decide (s.1 = p.2.2.1) = true then some (decide (s.2.1 = p.2.2.2.1)) else some false) _) = _
  unfold goal
  by_cases h1 : s.1 = p.2.2.1
  · by_cases h2 : s.2.1 = p.2.2.2.1
    · simp [h1, h2]
    · simp [h1, h2]
  · simp [h1]
/-- Both sides find the same shortest word. -/
theorem states_is (k : Nat) (hk : 1000000000 ≤ k) (p : tPuzzle.in) (hs : List.length p.1 ≤ 1048576) :
    ∃ wd ok all far, sp_puStates k p = some (all, far, ok, ()) ∧ im_SolutionOf k p = some (wd, ok, ()) ∧ (ok = false → wd = []) ∧ (ok = true → far = (List.length wd : Int) ∧ List.length wd ≤ 60 ∧ ∃ w h L i, Bd [46, 35] p.1 w h ∧ puOk (spl p.1) p = true ∧ Inv (spl p.1) p.2.1 L ∧ all.map pj = L.map pe ∧
      sp_wyAll k (gr (spl p.1) w h) p.2.1 = some all ∧ im_reachOn k p.1 p.2.1 = some (some (enc L), true, ()) ∧ i < L.length ∧ goal p (L.getD i e0).s = true ∧ (∀ j, j < i → goal p (L.getD j e0).s = false) ∧ WPath L i wd ∧ (L.getD i e0).f = (List.length wd : Int)) := by
  have d2 : im_SolutionOf k p = (im_IsPuzzle k p).bind _ := rfl
  have d4 : sp_puStates k p = (sp_puGood k p).bind _ := rfl
  rw [d2]
  rcases puz_is k (by omega) p hs with ⟨w, h, b, e1, e2, h1, h2, h3, h4⟩ | ⟨g, -, h1, h2, h3, h4⟩
  · cases hp : puOk (spl p.1) p with
    | false =>
      rw [hp] at h3 h4
      rw [d4, h3, h4]
      exact ⟨[], false, _, _, rfl, rfl, fun _ => rfl, fun q => by cases q⟩
    | true =>
      rw [hp] at h3 h4

      unfold puOk stOk at hp
      simp only [Bool.and_eq_true, decide_eq_true_eq] at hp
      obtain ⟨⟨hdie, hflo⟩, hcell, htop⟩ := hp
      have hflo' : flo (spl p.1) p.2.1 = true := decide_eq_true hflo
      have hst : stOk (spl p.1) p.2.1 = true := by unfold stOk; rw [hdie, decide_eq_true hflo]; rfl
      obtain ⟨L, all, hI, ha, hA, hR⟩ := reach_is k hk b.rc p.2.1 hflo' hdie (fun a2 => (im_grid_roll k (spl p.1) a2.1 a2.2.1).bind fun r3 => some (r3.1, r3.2.1, ())) (fun s c => by
        show (im_grid_roll k (spl p.1) s c).bind _ = _
        rw [gridRoll_is k b.rc]; rfl)
      have hL := hI.bd b.rc
      have hl := pj_len ha
      rw [h3, d4, h4, Option.bind_some, Option.bind_some, if_neg (by decide), if_neg (by decide), e2, Option.bind_some, hA, Option.bind_some]
      -- the program's way
      have c1 : im_reachOn k p.1 p.2.1 = some (some (enc L), true, ()) := by
        show (im_onBoard k p.1 p.2.1).bind _ = _
        rw [h1, hst, Option.bind_some, if_neg (show ¬ ((!true) = true) by decide)]
        show (im_reached k p.2.1 (fun a2 => (im_grid_roll k (spl p.1) a2.1 a2.2.1).bind fun r3 => some (r3.1, r3.2.1, ()))).bind _ = _
        rw [hR]; rfl
      have hin : (0 ≤ p.2.2.2.1 ∧ p.2.2.2.1 < (h : Int)) ∧ (0 ≤ p.2.2.1 ∧ p.2.2.1 < (w : Int)) := flo_in b.rc (s := (p.2.2.1, p.2.2.2.1, p.2.1.2.2.1, ())) (decide_eq_true hcell)
      have c2 : im_reachCell k p.1 p.2.1 p.2.2.1 p.2.2.2.1 = some (some (enc L), true, ()) := by
        show (im_reachOn k p.1 p.2.1).bind _ = _
        rw [c1, Option.bind_some, e1, Option.bind_some, if_neg (show ¬ ((!true) = true) by decide), has_is k b.rc, Option.bind_some, if_neg (nnd hin)]
      have c3 : im_WayToTop k p.1 p.2.1 p.2.2.1 p.2.2.2.1 p.2.2.2.2.1 = (im_reach_wordTo k (some (enc L)) (fun a3 => (im_WayToTop_1 k a3.1 p.2.2.1 p.2.2.2.1 p.2.2.2.2.1).bind fun r4 => some r4)).bind fun r5 => some (r5.1, r5.2.1, ()) := by
        show (im_reachCell k p.1 p.2.1 p.2.2.1 p.2.2.2.1).bind _ = _
        rw [c2, Option.bind_some, if_neg (show ¬ ((!true) = true) by decide), im_in_is, Option.bind_some, if_neg (nnd htop)]
      have l1 : (enc L).1 = L.map En.s := rfl
      have c4 := idxSt_loop k (goal p) (fun a3 => (im_WayToTop_1 k a3.1 p.2.2.1 p.2.2.2.1 p.2.2.2.2.1).bind fun r4 => some r4) (fun x => by
        show Option.bind (im_WayToTop_1 k x p.2.2.1 p.2.2.2.1 p.2.2.2.2.1) _ = _
        rw [isGoal1_is]; rfl) (enc L).1 (by rw [l1, List.length_map]; omega) (enc L).1.length k 0 (by omega) (by rw [l1, List.length_map]; omega)
      rw [List.drop_zero] at c4
      have c5 : im_reach_wordTo k (some (enc L)) (fun a3 => (im_WayToTop_1 k a3.1 p.2.2.1 p.2.2.2.1 p.2.2.2.2.1).bind fun r4 => some r4) = (slices_IndexFunc_impl_State_impl_State_l2 k k (enc L).1 (fun a3 => (im_WayToTop_1 k a3.1 p.2.2.1 p.2.2.2.1 p.2.2.2.2.1).bind fun r4 => some r4) ((enc L).1.length : Int) ((0 : Nat) : Int)).bind _ := rfl
      rw [c3, c5, c4, Option.bind_some]
      rcases first_or e0 (fun e => goal p e.s) L with hno | ⟨i, hi, hg, hno⟩
      · have f1 : fidx (goal p) (enc L).1 = -1 := by
          rw [fidx_all]
          intro x hx
          obtain ⟨e, he, rfl⟩ := List.mem_map.1 hx
          exact hno e he
        have s1 := pu_none k p ha hL hno L.length k 0 (by omega) (by omega)
        rw [f1, if_pos rfl, if_pos (dt (by decide))]
        exact ⟨[], false, _, _, s1, rfl, fun _ => rfl, fun q => by cases q⟩
      · have f1 : fidx (goal p) (enc L).1 = (i : Int) := by
          refine fidx_first sz0 (goal p) (L.map En.s) i (by rw [List.length_map]; exact hi) ?_ fun j hj => ?_
          · rw [gmap (z := e0) En.s L sz0 hi]; exact hg
          · rw [gmap (z := e0) En.s L sz0 (by omega)]; exact hno j hj
        obtain ⟨wd, hpth, hlen⟩ := hI.path i hi
        have hfb := hI.fb i hi
        have s1 := pu_first k p ha hL hi hg hno i k 0 (by omega) (by omega)
        have c6 : im_reach_word k (some (enc L)) (i : Int) = _ := word_im k hk hL hpth k [] (by omega) (by simp; omega)
        have f2 : (if fidx (goal p) (enc L).1 = -1 then -1 else ((0 : Nat) : Int) + fidx (goal p) (enc L).1) = (i : Int) := by rw [f1, if_neg (by omega)]; omega
        rw [f2, if_neg (ndt (by omega)), c6]
        simp only [List.length_nil, Nat.zero_add, List.nil_append, List.reverse_reverse]
        by_cases hfar : (L.getD i e0).f ≤ 60
        · rw [decide_eq_true hfar] at s1
          rw [if_neg (by omega)]
          exact ⟨wd, true, _, _, s1, rfl, (fun q => by cases q), fun _ => ⟨hlen.symm, by omega, w, h, L, i, b, trivial, hI, ha, hA, c1, hi, hg, hno, hpth, hlen.symm⟩⟩
        · rw [decide_eq_false hfar] at s1
          rw [if_pos (by omega)]
          exact ⟨[], false, _, _, s1, rfl, (fun _ => rfl), fun q => by cases q⟩
  · rw [d4, h3, h4]
    exact ⟨[], false, _, _, rfl, rfl, fun _ => rfl, fun q => by cases q⟩
end Ev
/- loop.example/g01207/spec.l1Same -/
namespace Ev
open Go Go.Proofs
/-! spec.l1Same -/
@[reducible] def sp_l1Same_l4_L : List (Nat × Sh) := [(0, (.v (.sl I))), (1, (.v (.sl I))), (12, (.v I)), (13, (.v I))]
def sp_l1Same_l4s (_k : Nat) (g_l4 : (List Int) → (List Int) → Int → Int → Option Bool) (x0 : (List Int)) (x1 : (List Int)) (x12 : Int) (x13 : Int) : Option Bool :=
  if (decide (x13 < x12)) = true then
    inb x13 x0.length (
      inb x13 x1.length (
        if (!decide ((rdT I x0 x13) = (rdT I x1 x13))) = true then
          some false
        else
          g_l4 x0 x1 x12 (IntKind.i64.wrap (x13 + (1 : Int)))))
  else
    some true
def sp_l1Same_l4 (k : Nat)  : Nat → (List Int) → (List Int) → Int → Int → Option Bool
  | 0, _, _, _, _ => none
  | n + 1, x0, x1, x12, x13 => sp_l1Same_l4s k (sp_l1Same_l4 k n) x0 x1 x12 x13
def sp_l1Same_s (_k : Nat) (c_l4 : (List Int) → (List Int) → Int → Int → Option Bool) (x0 : (List Int)) (x1 : (List Int)) : Option Bool :=
  if (!decide ((x0.length : Int) = (x1.length : Int))) = true then
    some false
  else
    c_l4 x0 x1 (x0.length : Int) (0 : Int)
def sp_l1Same (k : Nat) (x0 : (List Int)) (x1 : (List Int)) : Option Bool := sp_l1Same_s k (sp_l1Same_l4 k k) x0 x1
noncomputable def sp_l1Same_O (k : Nat) : Orc := { ps := [.v (.sl I), .v (.sl I)], rt := (.v T.b), F := fun x => sp_l1Same k x.1 x.2.1 }
noncomputable def sp_l1Same_E (k : Nat) : Env := { ty := tabTy Tryd_tab, ds := tabDs Tryd_tab, rounds := k, nt := 26, orc := fun _ => none, lp := fun i => if Nat.beq i 4 = true then some sp_l1Same_l4_L else (none), ct := fun _ => none, plan := fun i => if Nat.beq i 6 = true then some [(0, []), (1, []), (2, []), (3, []), (4, []), (5, []), (6, []), (7, []), (8, [])] else (none) }
noncomputable def sp_l1Same_fin (k : Nat) : Kn Bool := finish (sp_l1Same_E k) [.v (.sl I), .v (.sl I)] (.v T.b) Tryd.f107.results.toList
noncomputable def sp_l1Same_l4_e (k : Nat)  (n : Nat) (x0 : (List Int)) (x1 : (List Int)) (x12 : Int) (x13 : Int) : Option Bool := loopF (sp_l1Same_E k) sp_l1Same_l4_L (ev (sp_l1Same_E k) (sub (bodyOf Tryd.f107) [.r, .r, .l, .r, .c, .c])) (kont (sp_l1Same_E k) (bodyOf Tryd.f107) [.r, .r, .l, .r, .c] [] (sp_l1Same_fin k)) n (x0, x1, x12, x13, ())
theorem sp_l1Same_l4_z (k : Nat)  (x0 : (List Int)) (x1 : (List Int)) (x12 : Int) (x13 : Int) : sp_l1Same_l4_e k 0 x0 x1 x12 x13 = none := by kernel_rfl
theorem sp_l1Same_l4_st (k : Nat)  (n : Nat) (x0 : (List Int)) (x1 : (List Int)) (x12 : Int) (x13 : Int) : sp_l1Same_l4_e k (n + 1) x0 x1 x12 x13 = sp_l1Same_l4s k (sp_l1Same_l4_e k n) x0 x1 x12 x13 := by kernel_rfl
theorem sp_l1Same_l4_ev (k : Nat)  : ∀ (n : Nat) (x0 : (List Int)) (x1 : (List Int)) (x12 : Int) (x13 : Int), sp_l1Same_l4_e k n x0 x1 x12 x13 = sp_l1Same_l4 k n x0 x1 x12 x13
  | 0, x0, x1, x12, x13 => sp_l1Same_l4_z k x0 x1 x12 x13
  | n + 1, x0, x1, x12, x13 => by
    have ih : (sp_l1Same_l4_e k n) = sp_l1Same_l4 k n := by funext y0 y1 y2 y3; exact sp_l1Same_l4_ev k n y0 y1 y2 y3
    rw [sp_l1Same_l4_st, ih]; rfl
theorem sp_l1Same_st (k : Nat) (x0 : (List Int)) (x1 : (List Int)) : evFun (sp_l1Same_E k) [.v (.sl I), .v (.sl I)] (.v T.b) Tryd.f107 (x0, x1, ()) = sp_l1Same_s k (sp_l1Same_l4_e k k) x0 x1 := by kernel_rfl
theorem sp_l1Same_ev (k : Nat) (x0 : (List Int)) (x1 : (List Int)) : evFun (sp_l1Same_E k) [.v (.sl I), .v (.sl I)] (.v T.b) Tryd.f107 (x0, x1, ()) = sp_l1Same k x0 x1 := by
  have h0 : (sp_l1Same_l4_e k k) = (sp_l1Same_l4 k k) := by funext y0 y1 y2 y3; exact sp_l1Same_l4_ev k k y0 y1 y2 y3
  rw [sp_l1Same_st, h0]; rfl
theorem sp_l1Same_c (k : Nat) : Contract Tryd.prog 107 (sp_l1Same_O k) :=
  fun_sound (c := bodyOf Tryd.f107) (tab_ok Tryd_tab_ok rfl rfl) orc_nil Tryd.func107 (by kernel_rfl) rfl (by kernel_rfl) (by decide) rfl rfl (by kernel_rfl) (by kernel_rfl) (by kernel_rfl) (fun x _ h => (sp_l1Same_ev k x.1 x.2.1).trans h)
end Ev
/- loop.example/g01207/spec.puBefore -/
namespace Ev
open Go Go.Proofs
/-! spec.puBefore -/
def sp_puBefore_s (_k : Nat) (x0 : tPuzzle.in) (x1 : tPuzzle.in) : Option Bool :=
  if (!decide (x0.2.2.2.1 = x1.2.2.2.1)) = true then
    some (decide (x0.2.2.2.1 < x1.2.2.2.1))
  else
    if (!decide (x0.2.2.1 = x1.2.2.1)) = true then
      some (decide (x0.2.2.1 < x1.2.2.1))
    else
      some (decide (x0.2.2.2.2.1 < x1.2.2.2.2.1))
def sp_puBefore (k : Nat) (x0 : tPuzzle.in) (x1 : tPuzzle.in) : Option Bool := sp_puBefore_s k x0 x1
noncomputable def sp_puBefore_O (k : Nat) : Orc := { ps := [.v tPuzzle, .v tPuzzle], rt := (.v T.b), F := fun x => sp_puBefore k x.1 x.2.1 }
noncomputable def sp_puBefore_E (k : Nat) : Env := { ty := tabTy Tryd_tab, ds := tabDs Tryd_tab, rounds := k, nt := 32, orc := fun _ => none, lp := fun _ => none, ct := fun _ => none, plan := fun _ => none }
noncomputable def sp_puBefore_fin (k : Nat) : Kn Bool := finish (sp_puBefore_E k) [.v tPuzzle, .v tPuzzle] (.v T.b) Tryd.f108.results.toList
theorem sp_puBefore_st (k : Nat) (x0 : tPuzzle.in) (x1 : tPuzzle.in) : evFun (sp_puBefore_E k) [.v tPuzzle, .v tPuzzle] (.v T.b) Tryd.f108 (x0, x1, ()) = sp_puBefore_s k x0 x1 := by kernel_rfl
theorem sp_puBefore_ev (k : Nat) (x0 : tPuzzle.in) (x1 : tPuzzle.in) : evFun (sp_puBefore_E k) [.v tPuzzle, .v tPuzzle] (.v T.b) Tryd.f108 (x0, x1, ()) = sp_puBefore k x0 x1 := by
  skip
  rw [sp_puBefore_st]; rfl
theorem sp_puBefore_c (k : Nat) : Contract Tryd.prog 108 (sp_puBefore_O k) :=
  fun_sound (c := bodyOf Tryd.f108) (tab_ok Tryd_tab_ok rfl rfl) orc_nil Tryd.func108 (by kernel_rfl) rfl (by kernel_rfl) (by decide) rfl rfl (by kernel_rfl) (by kernel_rfl) (by kernel_rfl) (fun x _ h => (sp_puBefore_ev k x.1 x.2.1).trans h)
end Ev
/- loop.example/g01207/spec.puHardest -/
namespace Ev
open Go Go.Proofs
/-! spec.puHardest -/
@[reducible] def sp_puHardest_l10_L : List (Nat × Sh) := [(0, (.v T.s)), (3, (.bx 31 (.v tState))), (4, (.bx 33 (.v tPuzzle))), (8, (.bx 33 (.v tPuzzle))), (9, (.v I)), (10, (.o 52 (.sl I))), (12, (.bx 102 (.v twyNode))), (13, (.o 3 I)), (14, (.v T.b)), (26, (.o 102 twyNode)), (27, (.v I)), (28, (.v I)), (43, (.al 10)), (44, (.v I)), (45, (.v I))]
@[reducible] def sp_puHardest_l5_L : List (Nat × Sh) := [(0, (.v T.s)), (3, (.bx 31 (.v tState))), (4, (.bx 33 (.v tPuzzle))), (8, (.bx 33 (.v tPuzzle))), (9, (.v I)), (10, (.o 52 (.sl I))), (26, (.o 102 twyNode)), (27, (.v I)), (28, (.v I))]
def sp_puHardest_l10s (k : Nat) (g_l5 : (List Int) → tState.in → tPuzzle.in → tPuzzle.in → Int → (List (List Int)) → (List twyNode.in) → Int → Int → Option (tPuzzle.in × (Int × Unit))) (g_l10 : (List Int) → tState.in → tPuzzle.in → tPuzzle.in → Int → (List (List Int)) → twyNode.in → (List Int) → Bool → (List twyNode.in) → Int → Int → Unit → Int → Int → Option (tPuzzle.in × (Int × Unit))) (x0 : (List Int)) (x3 : tState.in) (x4 : tPuzzle.in) (x8 : tPuzzle.in) (x9 : Int) (x10 : (List (List Int))) (x12 : twyNode.in) (x13 : (List Int)) (x14 : Bool) (x26 : (List twyNode.in)) (x27 : Int) (x28 : Int) (_x43 : Unit) (x44 : Int) (x45 : Int) : Option (tPuzzle.in × (Int × Unit)) :=
  if (decide (x45 < x44)) = true then
    inb x45 x10.length (
      if x14 = true then
        g_l10 x0 x3 x4 x8 x9 x10 x12 x13 true x26 x27 x28 () x44 (IntKind.i64.wrap (x45 + (1 : Int)))
      else
        (sp_l1Same k (x10.getD (x45).toNat ([] : (List Int))) x13).bind fun r3 =>
        g_l10 x0 x3 x4 x8 x9 x10 x12 x13 r3 x26 x27 x28 () x44 (IntKind.i64.wrap (x45 + (1 : Int))))
  else
    if x14 = true then
      g_l5 x0 x3 x4 x8 x9 x10 x26 x27 (IntKind.i64.wrap (x28 + (1 : Int)))
    else
      if x10.length + ([x13] : List (List Int)).length ≤ 17179869184 then (
        if (decide (x9 < x12.2.1)) = true then
          g_l5 x0 x3 x4 (x0, x3, x12.1.1, x12.1.2.1, x12.1.2.2.1.1, ()) x12.2.1 (x10 ++ ([x13] : List (List Int))) x26 x27 (IntKind.i64.wrap (x28 + (1 : Int)))
        else
          if (decide (x12.2.1 = x9)) = true then
            (sp_puBefore k (x0, x3, x12.1.1, x12.1.2.1, x12.1.2.2.1.1, ()) x8).bind fun r4 =>
            if r4 = true then
              g_l5 x0 x3 x4 (x0, x3, x12.1.1, x12.1.2.1, x12.1.2.2.1.1, ()) x12.2.1 (x10 ++ ([x13] : List (List Int))) x26 x27 (IntKind.i64.wrap (x28 + (1 : Int)))
            else
              g_l5 x0 x3 x4 x8 x9 (x10 ++ ([x13] : List (List Int))) x26 x27 (IntKind.i64.wrap (x28 + (1 : Int)))
          else
            g_l5 x0 x3 x4 x8 x9 (x10 ++ ([x13] : List (List Int))) x26 x27 (IntKind.i64.wrap (x28 + (1 : Int)))) else none
def sp_puHardest_l10 (k : Nat) (g_l5 : (List Int) → tState.in → tPuzzle.in → tPuzzle.in → Int → (List (List Int)) → (List twyNode.in) → Int → Int → Option (tPuzzle.in × (Int × Unit))) : Nat → (List Int) → tState.in → tPuzzle.in → tPuzzle.in → Int → (List (List Int)) → twyNode.in → (List Int) → Bool → (List twyNode.in) → Int → Int → Unit → Int → Int → Option (tPuzzle.in × (Int × Unit))
  | 0, _, _, _, _, _, _, _, _, _, _, _, _, _, _, _ => none
  | n + 1, x0, x3, x4, x8, x9, x10, x12, x13, x14, x26, x27, x28, x43, x44, x45 => sp_puHardest_l10s k g_l5 (sp_puHardest_l10 k g_l5 n) x0 x3 x4 x8 x9 x10 x12 x13 x14 x26 x27 x28 x43 x44 x45
def sp_puHardest_l5s (_k : Nat) (c_l10 : ((List Int) → tState.in → tPuzzle.in → tPuzzle.in → Int → (List (List Int)) → (List twyNode.in) → Int → Int → Option (tPuzzle.in × (Int × Unit))) → (List Int) → tState.in → tPuzzle.in → tPuzzle.in → Int → (List (List Int)) → twyNode.in → (List Int) → Bool → (List twyNode.in) → Int → Int → Unit → Int → Int → Option (tPuzzle.in × (Int × Unit))) (g_l5 : (List Int) → tState.in → tPuzzle.in → tPuzzle.in → Int → (List (List Int)) → (List twyNode.in) → Int → Int → Option (tPuzzle.in × (Int × Unit))) (x0 : (List Int)) (x3 : tState.in) (x4 : tPuzzle.in) (x8 : tPuzzle.in) (x9 : Int) (x10 : (List (List Int))) (x26 : (List twyNode.in)) (x27 : Int) (x28 : Int) : Option (tPuzzle.in × (Int × Unit)) :=
  if (decide (x28 < x27)) = true then
    inb x28 x26.length (
      c_l10 g_l5 x0 x3 x4 x8 x9 x10 (x26.getD (x28).toNat (((0 : Int), (0 : Int), ((0 : Int), (0 : Int), (0 : Int), (0 : Int), (0 : Int), (0 : Int), ()), ()), (0 : Int), (0 : Int), (0 : Int), (0 : Int), (List.replicate 4 (0 : Int)), ())) ([(x26.getD (x28).toNat (((0 : Int), (0 : Int), ((0 : Int), (0 : Int), (0 : Int), (0 : Int), (0 : Int), (0 : Int), ()), ()), (0 : Int), (0 : Int), (0 : Int), (0 : Int), (List.replicate 4 (0 : Int)), ())).1.2.1, (x26.getD (x28).toNat (((0 : Int), (0 : Int), ((0 : Int), (0 : Int), (0 : Int), (0 : Int), (0 : Int), (0 : Int), ()), ()), (0 : Int), (0 : Int), (0 : Int), (0 : Int), (List.replicate 4 (0 : Int)), ())).1.1, (x26.getD (x28).toNat (((0 : Int), (0 : Int), ((0 : Int), (0 : Int), (0 : Int), (0 : Int), (0 : Int), (0 : Int), ()), ()), (0 : Int), (0 : Int), (0 : Int), (0 : Int), (List.replicate 4 (0 : Int)), ())).1.2.2.1.1] : List Int) false x26 x27 x28 () (x10.length : Int) (0 : Int))
  else
    some (x8, x9, ())
def sp_puHardest_l5 (k : Nat)  : Nat → (List Int) → tState.in → tPuzzle.in → tPuzzle.in → Int → (List (List Int)) → (List twyNode.in) → Int → Int → Option (tPuzzle.in × (Int × Unit))
  | 0, _, _, _, _, _, _, _, _, _ => none
  | n + 1, x0, x3, x4, x8, x9, x10, x26, x27, x28 => sp_puHardest_l5s k (fun g0 => sp_puHardest_l10 k g0 k) (sp_puHardest_l5 k n) x0 x3 x4 x8 x9 x10 x26 x27 x28
def sp_puHardest_s (k : Nat) (c_l5 : (List Int) → tState.in → tPuzzle.in → tPuzzle.in → Int → (List (List Int)) → (List twyNode.in) → Int → Int → Option (tPuzzle.in × (Int × Unit))) (x0 : (List Int)) (x1 : tState.in) : Option (tPuzzle.in × (Int × Unit)) :=
  (sp_boRead k x0).bind fun r1 =>
  (sp_wyAll k r1.1 x1).bind fun r2 =>
  c_l5 x0 x1 (([] : (List Int)), ((0 : Int), (0 : Int), ((0 : Int), (0 : Int), (0 : Int), (0 : Int), (0 : Int), (0 : Int), ()), ()), (0 : Int), (0 : Int), (0 : Int), ()) (([] : (List Int)), ((0 : Int), (0 : Int), ((0 : Int), (0 : Int), (0 : Int), (0 : Int), (0 : Int), (0 : Int), ()), ()), (0 : Int), (0 : Int), (0 : Int), ()) (-1 : Int) ([] : List (List Int)) r2 (r2.length : Int) (0 : Int)
def sp_puHardest (k : Nat) (x0 : (List Int)) (x1 : tState.in) : Option (tPuzzle.in × (Int × Unit)) := sp_puHardest_s k (sp_puHardest_l5 k k) x0 x1
noncomputable def sp_puHardest_O (k : Nat) : Orc := { ps := [.v T.s, .v tState], rt := (.pr (.v tPuzzle) (.pr (.v I) .un)), F := fun x => sp_puHardest k x.1 x.2.1 }
noncomputable def sp_puHardest_E (k : Nat) : Env := { ty := tabTy Tryd_tab, ds := tabDs Tryd_tab, rounds := k, nt := 95, orc := fun g => if Nat.beq g 44 = true then some (sp_boRead_O k) else (if Nat.beq g 106 = true then some (sp_wyAll_O k) else (if Nat.beq g 107 = true then some (sp_l1Same_O k) else (if Nat.beq g 108 = true then some (sp_puBefore_O k) else (none)))), lp := fun i => if Nat.beq i 5 = true then some sp_puHardest_l5_L else (if Nat.beq i 10 = true then some sp_puHardest_l10_L else (none)), ct := fun _ => none, plan := fun _ => none }
noncomputable def sp_puHardest_fin (k : Nat) : Kn (tPuzzle.in × (Int × Unit)) := finish (sp_puHardest_E k) [.v T.s, .v tState] (.pr (.v tPuzzle) (.pr (.v I) .un)) Tryd.f66.results.toList
noncomputable def sp_puHardest_l10_e (k : Nat) (g_l5 : (List Int) → tState.in → tPuzzle.in → tPuzzle.in → Int → (List (List Int)) → (List twyNode.in) → Int → Int → Option (tPuzzle.in × (Int × Unit))) (n : Nat) (x0 : (List Int)) (x3 : tState.in) (x4 : tPuzzle.in) (x8 : tPuzzle.in) (x9 : Int) (x10 : (List (List Int))) (x12 : twyNode.in) (x13 : (List Int)) (x14 : Bool) (x26 : (List twyNode.in)) (x27 : Int) (x28 : Int) (x43 : Unit) (x44 : Int) (x45 : Int) : Option (tPuzzle.in × (Int × Unit)) := loopF (sp_puHardest_E k) sp_puHardest_l10_L (ev (sp_puHardest_E k) (sub (bodyOf Tryd.f66) [.r, .r, .r, .r, .l, .r, .c, .c, .r, .r, .l, .c, .r, .r, .r, .l, .r, .c, .c])) (kont (sp_puHardest_E k) (bodyOf Tryd.f66) [.r, .r, .r, .r, .l, .r, .c, .c, .r, .r, .l, .c, .r, .r, .r, .l, .r, .c] [⟨sp_puHardest_l5_L, fun d => g_l5 d.1 d.2.1 d.2.2.1 d.2.2.2.1 d.2.2.2.2.1 d.2.2.2.2.2.1 d.2.2.2.2.2.2.1 d.2.2.2.2.2.2.2.1 d.2.2.2.2.2.2.2.2.1⟩] (sp_puHardest_fin k)) n (x0, x3, x4, x8, x9, x10, x12, x13, x14, x26, x27, x28, x43, x44, x45, ())
theorem sp_puHardest_l10_z (k : Nat) (g_l5 : (List Int) → tState.in → tPuzzle.in → tPuzzle.in → Int → (List (List Int)) → (List twyNode.in) → Int → Int → Option (tPuzzle.in × (Int × Unit))) (x0 : (List Int)) (x3 : tState.in) (x4 : tPuzzle.in) (x8 : tPuzzle.in) (x9 : Int) (x10 : (List (List Int))) (x12 : twyNode.in) (x13 : (List Int)) (x14 : Bool) (x26 : (List twyNode.in)) (x27 : Int) (x28 : Int) (x43 : Unit) (x44 : Int) (x45 : Int) : sp_puHardest_l10_e k g_l5 0 x0 x3 x4 x8 x9 x10 x12 x13 x14 x26 x27 x28 x43 x44 x45 = none := by kernel_rfl
theorem sp_puHardest_l10_st (k : Nat) (g_l5 : (List Int) → tState.in → tPuzzle.in → tPuzzle.in → Int → (List (List Int)) → (List twyNode.in) → Int → Int → Option (tPuzzle.in × (Int × Unit))) (n : Nat) (x0 : (List Int)) (x3 : tState.in) (x4 : tPuzzle.in) (x8 : tPuzzle.in) (x9 : Int) (x10 : (List (List Int))) (x12 : twyNode.in) (x13 : (List Int)) (x14 : Bool) (x26 : (List twyNode.in)) (x27 : Int) (x28 : Int) (x43 : Unit) (x44 : Int) (x45 : Int) : sp_puHardest_l10_e k g_l5 (n + 1) x0 x3 x4 x8 x9 x10 x12 x13 x14 x26 x27 x28 x43 x44 x45 = sp_puHardest_l10s k g_l5 (sp_puHardest_l10_e k g_l5 n) x0 x3 x4 x8 x9 x10 x12 x13 x14 x26 x27 x28 x43 x44 x45 := by kernel_rfl
theorem sp_puHardest_l10_ev (k : Nat) (g_l5 : (List Int) → tState.in → tPuzzle.in → tPuzzle.in → Int → (List (List Int)) → (List twyNode.in) → Int → Int → Option (tPuzzle.in × (Int × Unit))) : ∀ (n : Nat) (x0 : (List Int)) (x3 : tState.in) (x4 : tPuzzle.in) (x8 : tPuzzle.in) (x9 : Int) (x10 : (List (List Int))) (x12 : twyNode.in) (x13 : (List Int)) (x14 : Bool) (x26 : (List twyNode.in)) (x27 : Int) (x28 : Int) (x43 : Unit) (x44 : Int) (x45 : Int), sp_puHardest_l10_e k g_l5 n x0 x3 x4 x8 x9 x10 x12 x13 x14 x26 x27 x28 x43 x44 x45 = sp_puHardest_l10 k g_l5 n x0 x3 x4 x8 x9 x10 x12 x13 x14 x26 x27 x28 x43 x44 x45
  | 0, x0, x3, x4, x8, x9, x10, x12, x13, x14, x26, x27, x28, x43, x44, x45 => sp_puHardest_l10_z k g_l5 x0 x3 x4 x8 x9 x10 x12 x13 x14 x26 x27 x28 x43 x44 x45
  | n + 1, x0, x3, x4, x8, x9, x10, x12, x13, x14, x26, x27, x28, x43, x44, x45 => by
    have ih : (sp_puHardest_l10_e k g_l5 n) = sp_puHardest_l10 k g_l5 n := by funext y0 y1 y2 y3 y4 y5 y6 y7 y8 y9 y10 y11 y12 y13 y14; exact sp_puHardest_l10_ev k g_l5 n y0 y1 y2 y3 y4 y5 y6 y7 y8 y9 y10 y11 y12 y13 y14
    rw [sp_puHardest_l10_st, ih]; rfl
noncomputable def sp_puHardest_l5_e (k : Nat)  (n : Nat) (x0 : (List Int)) (x3 : tState.in) (x4 : tPuzzle.in) (x8 : tPuzzle.in) (x9 : Int) (x10 : (List (List Int))) (x26 : (List twyNode.in)) (x27 : Int) (x28 : Int) : Option (tPuzzle.in × (Int × Unit)) := loopF (sp_puHardest_E k) sp_puHardest_l5_L (ev (sp_puHardest_E k) (sub (bodyOf Tryd.f66) [.r, .r, .r, .r, .l, .r, .c, .c])) (kont (sp_puHardest_E k) (bodyOf Tryd.f66) [.r, .r, .r, .r, .l, .r, .c] [] (sp_puHardest_fin k)) n (x0, x3, x4, x8, x9, x10, x26, x27, x28, ())
theorem sp_puHardest_l5_z (k : Nat)  (x0 : (List Int)) (x3 : tState.in) (x4 : tPuzzle.in) (x8 : tPuzzle.in) (x9 : Int) (x10 : (List (List Int))) (x26 : (List twyNode.in)) (x27 : Int) (x28 : Int) : sp_puHardest_l5_e k 0 x0 x3 x4 x8 x9 x10 x26 x27 x28 = none := by kernel_rfl
theorem sp_puHardest_l5_st (k : Nat)  (n : Nat) (x0 : (List Int)) (x3 : tState.in) (x4 : tPuzzle.in) (x8 : tPuzzle.in) (x9 : Int) (x10 : (List (List Int))) (x26 : (List twyNode.in)) (x27 : Int) (x28 : Int) : sp_puHardest_l5_e k (n + 1) x0 x3 x4 x8 x9 x10 x26 x27 x28 = sp_puHardest_l5s k (fun g0 => sp_puHardest_l10_e k g0 k) (sp_puHardest_l5_e k n) x0 x3 x4 x8 x9 x10 x26 x27 x28 := by kernel_rfl
theorem sp_puHardest_l5_ev (k : Nat)  : ∀ (n : Nat) (x0 : (List Int)) (x3 : tState.in) (x4 : tPuzzle.in) (x8 : tPuzzle.in) (x9 : Int) (x10 : (List (List Int))) (x26 : (List twyNode.in)) (x27 : Int) (x28 : Int), sp_puHardest_l5_e k n x0 x3 x4 x8 x9 x10 x26 x27 x28 = sp_puHardest_l5 k n x0 x3 x4 x8 x9 x10 x26 x27 x28
  | 0, x0, x3, x4, x8, x9, x10, x26, x27, x28 => sp_puHardest_l5_z k x0 x3 x4 x8 x9 x10 x26 x27 x28
  | n + 1, x0, x3, x4, x8, x9, x10, x26, x27, x28 => by
    have h0 : (fun g0 => sp_puHardest_l10_e k g0 k) = (fun g0 => sp_puHardest_l10 k g0 k) := by funext g0 y0 y1 y2 y3 y4 y5 y6 y7 y8 y9 y10 y11 y12 y13 y14; exact sp_puHardest_l10_ev k g0 k y0 y1 y2 y3 y4 y5 y6 y7 y8 y9 y10 y11 y12 y13 y14
    have ih : (sp_puHardest_l5_e k n) = sp_puHardest_l5 k n := by funext y0 y1 y2 y3 y4 y5 y6 y7 y8; exact sp_puHardest_l5_ev k n y0 y1 y2 y3 y4 y5 y6 y7 y8
    rw [sp_puHardest_l5_st, h0, ih]; rfl
theorem sp_puHardest_st (k : Nat) (x0 : (List Int)) (x1 : tState.in) : evFun (sp_puHardest_E k) [.v T.s, .v tState] (.pr (.v tPuzzle) (.pr (.v I) .un)) Tryd.f66 (x0, x1, ()) = sp_puHardest_s k (sp_puHardest_l5_e k k) x0 x1 := by kernel_rfl
theorem sp_puHardest_ev (k : Nat) (x0 : (List Int)) (x1 : tState.in) : evFun (sp_puHardest_E k) [.v T.s, .v tState] (.pr (.v tPuzzle) (.pr (.v I) .un)) Tryd.f66 (x0, x1, ()) = sp_puHardest k x0 x1 := by
  have h0 : (sp_puHardest_l5_e k k) = (sp_puHardest_l5 k k) := by funext y0 y1 y2 y3 y4 y5 y6 y7 y8; exact sp_puHardest_l5_ev k k y0 y1 y2 y3 y4 y5 y6 y7 y8
  rw [sp_puHardest_st, h0]; rfl
theorem sp_puHardest_c (k : Nat) : Contract Tryd.prog 66 (sp_puHardest_O k) :=
  fun_sound (c := bodyOf Tryd.f66) (tab_ok Tryd_tab_ok rfl rfl) (orc_cons (sp_boRead_c k) (orc_cons (sp_wyAll_c k) (orc_cons (sp_l1Same_c k) (orc_cons (sp_puBefore_c k) orc_nil)))) Tryd.func66 (by kernel_rfl) rfl (by kernel_rfl) (by decide) rfl rfl (by kernel_rfl) (by kernel_rfl) (by kernel_rfl) (fun x _ h => (sp_puHardest_ev k x.1 x.2.1).trans h)
end Ev
/- loop.example/g01207/spec.HardestGoal -/
namespace Ev
open Go Go.Proofs
/-! spec.HardestGoal -/
def sp_HardestGoal_s (k : Nat) (x0 : (List Int)) (x1 : tState.in) : Option (tPuzzle.in × (Int × (Bool × Unit))) :=
  (sp_boAsked k x0 x1).bind fun r1 =>
  if (!r1.2.1) = true then
    some ((([] : (List Int)), ((0 : Int), (0 : Int), ((0 : Int), (0 : Int), (0 : Int), (0 : Int), (0 : Int), (0 : Int), ()), ()), (0 : Int), (0 : Int), (0 : Int), ()), (0 : Int), false, ())
  else
    (sp_puHardest k x0 x1).bind fun r2 =>
    if (decide ((60 : Int) < r2.2.1)) = true then
      some ((([] : (List Int)), ((0 : Int), (0 : Int), ((0 : Int), (0 : Int), (0 : Int), (0 : Int), (0 : Int), (0 : Int), ()), ()), (0 : Int), (0 : Int), (0 : Int), ()), (0 : Int), false, ())
    else
      some (r2.1, r2.2.1, true, ())
def sp_HardestGoal (k : Nat) (x0 : (List Int)) (x1 : tState.in) : Option (tPuzzle.in × (Int × (Bool × Unit))) := sp_HardestGoal_s k x0 x1
noncomputable def sp_HardestGoal_O (k : Nat) : Orc := { ps := [.v T.s, .v tState], rt := (.pr (.v tPuzzle) (.pr (.v I) (.pr (.v T.b) .un))), F := fun x => sp_HardestGoal k x.1 x.2.1 }
noncomputable def sp_HardestGoal_E (k : Nat) : Env := { ty := tabTy Tryd_tab, ds := tabDs Tryd_tab, rounds := k, nt := 31, orc := fun g => if Nat.beq g 65 = true then some (sp_boAsked_O k) else (if Nat.beq g 66 = true then some (sp_puHardest_O k) else (none)), lp := fun _ => none, ct := fun _ => none, plan := fun _ => none }
noncomputable def sp_HardestGoal_fin (k : Nat) : Kn (tPuzzle.in × (Int × (Bool × Unit))) := finish (sp_HardestGoal_E k) [.v T.s, .v tState] (.pr (.v tPuzzle) (.pr (.v I) (.pr (.v T.b) .un))) Tryd.f28.results.toList
theorem sp_HardestGoal_st (k : Nat) (x0 : (List Int)) (x1 : tState.in) : evFun (sp_HardestGoal_E k) [.v T.s, .v tState] (.pr (.v tPuzzle) (.pr (.v I) (.pr (.v T.b) .un))) Tryd.f28 (x0, x1, ()) = sp_HardestGoal_s k x0 x1 := by kernel_rfl
theorem sp_HardestGoal_ev (k : Nat) (x0 : (List Int)) (x1 : tState.in) : evFun (sp_HardestGoal_E k) [.v T.s, .v tState] (.pr (.v tPuzzle) (.pr (.v I) (.pr (.v T.b) .un))) Tryd.f28 (x0, x1, ()) = sp_HardestGoal k x0 x1 := by
  skip
  rw [sp_HardestGoal_st]; rfl
theorem sp_HardestGoal_c (k : Nat) : Contract Tryd.prog 28 (sp_HardestGoal_O k) :=
  fun_sound (c := bodyOf Tryd.f28) (tab_ok Tryd_tab_ok rfl rfl) (orc_cons (sp_boAsked_c k) (orc_cons (sp_puHardest_c k) orc_nil)) Tryd.func28 (by kernel_rfl) rfl (by kernel_rfl) (by decide) rfl rfl (by kernel_rfl) (by kernel_rfl) (by kernel_rfl) (fun x _ h => (sp_HardestGoal_ev k x.1 x.2.1).trans h)
end Ev
/- cmp.isNaN[int] -/
namespace Ev
open Go Go.Proofs
/-! cmp.isNaN[int] -/
def cmp_isNaN_int_s (_k : Nat) (x0 : Int) : Option Bool :=
  some (!decide (x0 = x0))
def cmp_isNaN_int (k : Nat) (x0 : Int) : Option Bool := cmp_isNaN_int_s k x0
noncomputable def cmp_isNaN_int_O (k : Nat) : Orc := { ps := [.v I], rt := (.v T.b), F := fun x => cmp_isNaN_int k x.1 }
noncomputable def cmp_isNaN_int_E (k : Nat) : Env := { ty := tabTy Tryd_tab, ds := tabDs Tryd_tab, rounds := k, nt := 6, orc := fun _ => none, lp := fun _ => none, ct := fun _ => none, plan := fun _ => none }
noncomputable def cmp_isNaN_int_fin (k : Nat) : Kn Bool := finish (cmp_isNaN_int_E k) [.v I] (.v T.b) Tryd.f149.results.toList
theorem cmp_isNaN_int_st (k : Nat) (x0 : Int) : evFun (cmp_isNaN_int_E k) [.v I] (.v T.b) Tryd.f149 (x0, ()) = cmp_isNaN_int_s k x0 := by kernel_rfl
theorem cmp_isNaN_int_ev (k : Nat) (x0 : Int) : evFun (cmp_isNaN_int_E k) [.v I] (.v T.b) Tryd.f149 (x0, ()) = cmp_isNaN_int k x0 := by
  skip
  rw [cmp_isNaN_int_st]; rfl
theorem cmp_isNaN_int_c (k : Nat) : Contract Tryd.prog 149 (cmp_isNaN_int_O k) :=
  fun_sound (c := bodyOf Tryd.f149) (tab_ok Tryd_tab_ok rfl rfl) orc_nil Tryd.func149 (by kernel_rfl) rfl (by kernel_rfl) (by decide) rfl rfl (by kernel_rfl) (by kernel_rfl) (by kernel_rfl) (fun x _ h => (cmp_isNaN_int_ev k x.1).trans h)
end Ev
/- cmp.Compare[int] -/
namespace Ev
open Go Go.Proofs
/-! cmp.Compare[int] -/
def cmp_Compare_int_s (k : Nat) (x0 : Int) (x1 : Int) : Option Int :=
  (cmp_isNaN_int k x0).bind fun r1 =>
  (cmp_isNaN_int k x1).bind fun r2 =>
  if r1 = true then
    if r2 = true then
      some (0 : Int)
    else
      some (-1 : Int)
  else
    if r2 = true then
      some (1 : Int)
    else
      if (decide (x0 < x1)) = true then
        some (-1 : Int)
      else
        if (decide (x1 < x0)) = true then
          some (1 : Int)
        else
          some (0 : Int)
def cmp_Compare_int (k : Nat) (x0 : Int) (x1 : Int) : Option Int := cmp_Compare_int_s k x0 x1
noncomputable def cmp_Compare_int_O (k : Nat) : Orc := { ps := [.v I, .v I], rt := (.v I), F := fun x => cmp_Compare_int k x.1 x.2.1 }
noncomputable def cmp_Compare_int_E (k : Nat) : Env := { ty := tabTy Tryd_tab, ds := tabDs Tryd_tab, rounds := k, nt := 20, orc := fun g => if Nat.beq g 149 = true then some (cmp_isNaN_int_O k) else (none), lp := fun _ => none, ct := fun _ => none, plan := fun _ => none }
noncomputable def cmp_Compare_int_fin (k : Nat) : Kn Int := finish (cmp_Compare_int_E k) [.v I, .v I] (.v I) Tryd.f132.results.toList
theorem cmp_Compare_int_st (k : Nat) (x0 : Int) (x1 : Int) : evFun (cmp_Compare_int_E k) [.v I, .v I] (.v I) Tryd.f132 (x0, x1, ()) = cmp_Compare_int_s k x0 x1 := by kernel_rfl
theorem cmp_Compare_int_ev (k : Nat) (x0 : Int) (x1 : Int) : evFun (cmp_Compare_int_E k) [.v I, .v I] (.v I) Tryd.f132 (x0, x1, ()) = cmp_Compare_int k x0 x1 := by
  skip
  rw [cmp_Compare_int_st]; rfl
theorem cmp_Compare_int_c (k : Nat) : Contract Tryd.prog 132 (cmp_Compare_int_O k) :=
  fun_sound (c := bodyOf Tryd.f132) (tab_ok Tryd_tab_ok rfl rfl) (orc_cons (cmp_isNaN_int_c k) orc_nil) Tryd.func132 (by kernel_rfl) rfl (by kernel_rfl) (by decide) rfl rfl (by kernel_rfl) (by kernel_rfl) (by kernel_rfl) (fun x _ h => (cmp_Compare_int_ev k x.1 x.2.1).trans h)
end Ev
/- slices.Compare[[]int,int] -/
namespace Ev
open Go Go.Proofs
/-! slices.Compare[[]int,int] -/
@[reducible] def slices_Compare_int_int_l2_L : List (Nat × Sh) := [(0, (.v (.sl I))), (1, (.v (.sl I))), (9, (.v (.sl I))), (10, (.v I)), (11, (.v I))]
def slices_Compare_int_int_l2s (k : Nat) (g_l2 : (List Int) → (List Int) → (List Int) → Int → Int → Option Int) (x0 : (List Int)) (x1 : (List Int)) (x9 : (List Int)) (x10 : Int) (x11 : Int) : Option Int :=
  if (decide (x11 < x10)) = true then
    inb x11 x9.length (
      if (decide ((x1.length : Int) ≤ x11)) = true then
        some (1 : Int)
      else
        inb x11 x1.length (
          (cmp_Compare_int k (rdT I x9 x11) (rdT I x1 x11)).bind fun r1 =>
          if (!decide (r1 = (0 : Int))) = true then
            some r1
          else
            g_l2 x0 x1 x9 x10 (IntKind.i64.wrap (x11 + (1 : Int)))))
  else
    if (decide ((x0.length : Int) < (x1.length : Int))) = true then
      some (-1 : Int)
    else
      some (0 : Int)
def slices_Compare_int_int_l2 (k : Nat)  : Nat → (List Int) → (List Int) → (List Int) → Int → Int → Option Int
  | 0, _, _, _, _, _ => none
  | n + 1, x0, x1, x9, x10, x11 => slices_Compare_int_int_l2s k (slices_Compare_int_int_l2 k n) x0 x1 x9 x10 x11
def slices_Compare_int_int_s (_k : Nat) (c_l2 : (List Int) → (List Int) → (List Int) → Int → Int → Option Int) (x0 : (List Int)) (x1 : (List Int)) : Option Int :=
  c_l2 x0 x1 x0 (x0.length : Int) (0 : Int)
def slices_Compare_int_int (k : Nat) (x0 : (List Int)) (x1 : (List Int)) : Option Int := slices_Compare_int_int_s k (slices_Compare_int_int_l2 k k) x0 x1
noncomputable def slices_Compare_int_int_O (k : Nat) : Orc := { ps := [.v (.sl I), .v (.sl I)], rt := (.v I), F := fun x => slices_Compare_int_int k x.1 x.2.1 }
noncomputable def slices_Compare_int_int_E (k : Nat) : Env := { ty := tabTy Tryd_tab, ds := tabDs Tryd_tab, rounds := k, nt := 36, orc := fun g => if Nat.beq g 132 = true then some (cmp_Compare_int_O k) else (none), lp := fun i => if Nat.beq i 2 = true then some slices_Compare_int_int_l2_L else (none), ct := fun _ => none, plan := fun _ => none }
noncomputable def slices_Compare_int_int_fin (k : Nat) : Kn Int := finish (slices_Compare_int_int_E k) [.v (.sl I), .v (.sl I)] (.v I) Tryd.f110.results.toList
noncomputable def slices_Compare_int_int_l2_e (k : Nat)  (n : Nat) (x0 : (List Int)) (x1 : (List Int)) (x9 : (List Int)) (x10 : Int) (x11 : Int) : Option Int := loopF (slices_Compare_int_int_E k) slices_Compare_int_int_l2_L (ev (slices_Compare_int_int_E k) (sub (bodyOf Tryd.f110) [.r, .l, .r, .c, .c])) (kont (slices_Compare_int_int_E k) (bodyOf Tryd.f110) [.r, .l, .r, .c] [] (slices_Compare_int_int_fin k)) n (x0, x1, x9, x10, x11, ())
theorem slices_Compare_int_int_l2_z (k : Nat)  (x0 : (List Int)) (x1 : (List Int)) (x9 : (List Int)) (x10 : Int) (x11 : Int) : slices_Compare_int_int_l2_e k 0 x0 x1 x9 x10 x11 = none := by kernel_rfl
theorem slices_Compare_int_int_l2_st (k : Nat)  (n : Nat) (x0 : (List Int)) (x1 : (List Int)) (x9 : (List Int)) (x10 : Int) (x11 : Int) : slices_Compare_int_int_l2_e k (n + 1) x0 x1 x9 x10 x11 = slices_Compare_int_int_l2s k (slices_Compare_int_int_l2_e k n) x0 x1 x9 x10 x11 := by kernel_rfl
theorem slices_Compare_int_int_l2_ev (k : Nat)  : ∀ (n : Nat) (x0 : (List Int)) (x1 : (List Int)) (x9 : (List Int)) (x10 : Int) (x11 : Int), slices_Compare_int_int_l2_e k n x0 x1 x9 x10 x11 = slices_Compare_int_int_l2 k n x0 x1 x9 x10 x11
  | 0, x0, x1, x9, x10, x11 => slices_Compare_int_int_l2_z k x0 x1 x9 x10 x11
  | n + 1, x0, x1, x9, x10, x11 => by
    have ih : (slices_Compare_int_int_l2_e k n) = slices_Compare_int_int_l2 k n := by funext y0 y1 y2 y3 y4; exact slices_Compare_int_int_l2_ev k n y0 y1 y2 y3 y4
    rw [slices_Compare_int_int_l2_st, ih]; rfl
theorem slices_Compare_int_int_st (k : Nat) (x0 : (List Int)) (x1 : (List Int)) : evFun (slices_Compare_int_int_E k) [.v (.sl I), .v (.sl I)] (.v I) Tryd.f110 (x0, x1, ()) = slices_Compare_int_int_s k (slices_Compare_int_int_l2_e k k) x0 x1 := by kernel_rfl
theorem slices_Compare_int_int_ev (k : Nat) (x0 : (List Int)) (x1 : (List Int)) : evFun (slices_Compare_int_int_E k) [.v (.sl I), .v (.sl I)] (.v I) Tryd.f110 (x0, x1, ()) = slices_Compare_int_int k x0 x1 := by
  have h0 : (slices_Compare_int_int_l2_e k k) = (slices_Compare_int_int_l2 k k) := by funext y0 y1 y2 y3 y4; exact slices_Compare_int_int_l2_ev k k y0 y1 y2 y3 y4
  rw [slices_Compare_int_int_st, h0]; rfl
theorem slices_Compare_int_int_c (k : Nat) : Contract Tryd.prog 110 (slices_Compare_int_int_O k) :=
  fun_sound (c := bodyOf Tryd.f110) (tab_ok Tryd_tab_ok rfl rfl) (orc_cons (cmp_Compare_int_c k) orc_nil) Tryd.func110 (by kernel_rfl) rfl (by kernel_rfl) (by decide) rfl rfl (by kernel_rfl) (by kernel_rfl) (by kernel_rfl) (fun x _ h => (slices_Compare_int_int_ev k x.1 x.2.1).trans h)
end Ev
/- loop.example/g01207/impl.hardest -/
namespace Ev
open Go Go.Proofs
/-! impl.hardest -/
@[reducible] def im_hardest_l6_L : List (Nat × Sh) := [(0, (.v T.s)), (3, (.bx 31 (.v tState))), (4, (.bx 33 (.v tPuzzle))), (7, (.v (.pt treach))), (9, (.bx 33 (.v tPuzzle))), (10, (.v I)), (11, (.m 142 (.ar 3 I) T.b)), (30, (.v (.sl tState))), (31, (.v I)), (32, (.v I))]
def im_hardest_l6s (k : Nat) (g_l6 : (List Int) → tState.in → tPuzzle.in → (Option treach.in) → tPuzzle.in → Int → (List ((List Int) × Bool)) → (List tState.in) → Int → Int → Option (tPuzzle.in × (Int × (Bool × Unit)))) (x0 : (List Int)) (x3 : tState.in) (x4 : tPuzzle.in) (x7 : (Option treach.in)) (x9 : tPuzzle.in) (x10 : Int) (x11 : (List ((List Int) × Bool))) (x30 : (List tState.in)) (x31 : Int) (x32 : Int) : Option (tPuzzle.in × (Int × (Bool × Unit))) :=
  if (decide (x32 < x31)) = true then
    inb x32 x30.length (
      if ((lk (.ar 3 I) T.b x11 ((((List.replicate 3 (0 : Int)).set 0 (rdT tState x30 x32).2.1).set 1 (rdT tState x30 x32).1).set 2 (rdT tState x30 x32).2.2.1.1)).getD false) = true then
        g_l6 x0 x3 x4 x7 x9 x10 x11 x30 x31 (IntKind.i64.wrap (x32 + (1 : Int)))
      else
        (slices_Compare_int_int k ((((List.replicate 3 (0 : Int)).set 0 (rdT tState x30 x32).2.1).set 1 (rdT tState x30 x32).1).set 2 (rdT tState x30 x32).2.2.1.1) ([x9.2.2.2.1, x9.2.2.1, x9.2.2.2.2.1] : List Int)).bind fun r3 =>
        (x7).bind fun v4 =>
        inb x32 v4.2.2.2.1.length (
          if (decide (x10 < (rdT I v4.2.2.2.1 x32))) = true then
            (x7).bind fun v5 =>
            inb x32 v5.2.2.2.1.length (
              g_l6 x0 x3 x4 x7 (x0, x3, (rdT tState x30 x32).1, (rdT tState x30 x32).2.1, (rdT tState x30 x32).2.2.1.1, ()) (rdT I v5.2.2.2.1 x32) (up (.ar 3 I) T.b x11 ((((List.replicate 3 (0 : Int)).set 0 (rdT tState x30 x32).2.1).set 1 (rdT tState x30 x32).1).set 2 (rdT tState x30 x32).2.2.1.1) true) x30 x31 (IntKind.i64.wrap (x32 + (1 : Int))))
          else
            (x7).bind fun v6 =>
            inb x32 v6.2.2.2.1.length (
              if (decide ((rdT I v6.2.2.2.1 x32) = x10)) = true then
                if (decide (r3 < (0 : Int))) = true then
                  (x7).bind fun v7 =>
                  inb x32 v7.2.2.2.1.length (
                    g_l6 x0 x3 x4 x7 (x0, x3, (rdT tState x30 x32).1, (rdT tState x30 x32).2.1, (rdT tState x30 x32).2.2.1.1, ()) (rdT I v7.2.2.2.1 x32) (up (.ar 3 I) T.b x11 ((((List.replicate 3 (0 : Int)).set 0 (rdT tState x30 x32).2.1).set 1 (rdT tState x30 x32).1).set 2 (rdT tState x30 x32).2.2.1.1) true) x30 x31 (IntKind.i64.wrap (x32 + (1 : Int))))
                else
                  g_l6 x0 x3 x4 x7 x9 x10 (up (.ar 3 I) T.b x11 ((((List.replicate 3 (0 : Int)).set 0 (rdT tState x30 x32).2.1).set 1 (rdT tState x30 x32).1).set 2 (rdT tState x30 x32).2.2.1.1) true) x30 x31 (IntKind.i64.wrap (x32 + (1 : Int)))
              else
                g_l6 x0 x3 x4 x7 x9 x10 (up (.ar 3 I) T.b x11 ((((List.replicate 3 (0 : Int)).set 0 (rdT tState x30 x32).2.1).set 1 (rdT tState x30 x32).1).set 2 (rdT tState x30 x32).2.2.1.1) true) x30 x31 (IntKind.i64.wrap (x32 + (1 : Int))))))
  else
    if (decide ((60 : Int) < x10)) = true then
      some ((([] : (List Int)), ((0 : Int), (0 : Int), ((0 : Int), (0 : Int), (0 : Int), (0 : Int), (0 : Int), (0 : Int), ()), ()), (0 : Int), (0 : Int), (0 : Int), ()), (0 : Int), false, ())
    else
      some (x9, x10, true, ())
def im_hardest_l6 (k : Nat)  : Nat → (List Int) → tState.in → tPuzzle.in → (Option treach.in) → tPuzzle.in → Int → (List ((List Int) × Bool)) → (List tState.in) → Int → Int → Option (tPuzzle.in × (Int × (Bool × Unit)))
  | 0, _, _, _, _, _, _, _, _, _, _ => none
  | n + 1, x0, x3, x4, x7, x9, x10, x11, x30, x31, x32 => im_hardest_l6s k (im_hardest_l6 k n) x0 x3 x4 x7 x9 x10 x11 x30 x31 x32
def im_hardest_s (k : Nat) (c_l6 : (List Int) → tState.in → tPuzzle.in → (Option treach.in) → tPuzzle.in → Int → (List ((List Int) × Bool)) → (List tState.in) → Int → Int → Option (tPuzzle.in × (Int × (Bool × Unit)))) (x0 : (List Int)) (x1 : tState.in) : Option (tPuzzle.in × (Int × (Bool × Unit))) :=
  (im_reachOn k x0 x1).bind fun r1 =>
  if (!r1.2.1) = true then
    some ((([] : (List Int)), ((0 : Int), (0 : Int), ((0 : Int), (0 : Int), (0 : Int), (0 : Int), (0 : Int), (0 : Int), ()), ()), (0 : Int), (0 : Int), (0 : Int), ()), (0 : Int), false, ())
  else
    (r1.1).bind fun v2 =>
    c_l6 x0 x1 (([] : (List Int)), ((0 : Int), (0 : Int), ((0 : Int), (0 : Int), (0 : Int), (0 : Int), (0 : Int), (0 : Int), ()), ()), (0 : Int), (0 : Int), (0 : Int), ()) r1.1 (([] : (List Int)), ((0 : Int), (0 : Int), ((0 : Int), (0 : Int), (0 : Int), (0 : Int), (0 : Int), (0 : Int), ()), ()), (0 : Int), (0 : Int), (0 : Int), ()) (-1 : Int) ([] : List ((List Int) × Bool)) v2.1 (v2.1.length : Int) (0 : Int)
def im_hardest (k : Nat) (x0 : (List Int)) (x1 : tState.in) : Option (tPuzzle.in × (Int × (Bool × Unit))) := im_hardest_s k (im_hardest_l6 k k) x0 x1
noncomputable def im_hardest_O (k : Nat) : Orc := { ps := [.v T.s, .v tState], rt := (.pr (.v tPuzzle) (.pr (.v I) (.pr (.v T.b) .un))), F := fun x => im_hardest k x.1 x.2.1 }
noncomputable def im_hardest_E (k : Nat) : Env := { ty := tabTy Tryd_tab, ds := tabDs Tryd_tab, rounds := k, nt := 106, orc := fun g => if Nat.beq g 109 = true then some (im_reachOn_O k) else (if Nat.beq g 110 = true then some (slices_Compare_int_int_O k) else (none)), lp := fun i => if Nat.beq i 6 = true then some im_hardest_l6_L else (none), ct := fun _ => none, plan := fun i => if Nat.beq i 13 = true then some [(0, []), (1, []), (2, []), (3, []), (4, []), (5, []), (6, []), (7, []), (8, []), (9, []), (10, []), (11, []), (12, []), (13, []), (14, []), (15, []), (16, []), (17, []), (18, [])] else (if Nat.beq i 11 = true then some [(0, []), (1, []), (2, []), (3, []), (4, []), (5, []), (6, []), (7, []), (8, []), (9, []), (10, [])] else (none)) }
noncomputable def im_hardest_fin (k : Nat) : Kn (tPuzzle.in × (Int × (Bool × Unit))) := finish (im_hardest_E k) [.v T.s, .v tState] (.pr (.v tPuzzle) (.pr (.v I) (.pr (.v T.b) .un))) Tryd.f67.results.toList
noncomputable def im_hardest_l6_e (k : Nat)  (n : Nat) (x0 : (List Int)) (x3 : tState.in) (x4 : tPuzzle.in) (x7 : (Option treach.in)) (x9 : tPuzzle.in) (x10 : Int) (x11 : (List ((List Int) × Bool))) (x30 : (List tState.in)) (x31 : Int) (x32 : Int) : Option (tPuzzle.in × (Int × (Bool × Unit))) := loopF (im_hardest_E k) im_hardest_l6_L (ev (im_hardest_E k) (sub (bodyOf Tryd.f67) [.r, .r, .r, .r, .l, .r, .c, .c])) (kont (im_hardest_E k) (bodyOf Tryd.f67) [.r, .r, .r, .r, .l, .r, .c] [] (im_hardest_fin k)) n (x0, x3, x4, x7, x9, x10, x11, x30, x31, x32, ())
theorem im_hardest_l6_z (k : Nat)  (x0 : (List Int)) (x3 : tState.in) (x4 : tPuzzle.in) (x7 : (Option treach.in)) (x9 : tPuzzle.in) (x10 : Int) (x11 : (List ((List Int) × Bool))) (x30 : (List tState.in)) (x31 : Int) (x32 : Int) : im_hardest_l6_e k 0 x0 x3 x4 x7 x9 x10 x11 x30 x31 x32 = none := by kernel_rfl
theorem im_hardest_l6_st (k : Nat)  (n : Nat) (x0 : (List Int)) (x3 : tState.in) (x4 : tPuzzle.in) (x7 : (Option treach.in)) (x9 : tPuzzle.in) (x10 : Int) (x11 : (List ((List Int) × Bool))) (x30 : (List tState.in)) (x31 : Int) (x32 : Int) : im_hardest_l6_e k (n + 1) x0 x3 x4 x7 x9 x10 x11 x30 x31 x32 = im_hardest_l6s k (im_hardest_l6_e k n) x0 x3 x4 x7 x9 x10 x11 x30 x31 x32 := by kernel_rfl
theorem im_hardest_l6_ev (k : Nat)  : ∀ (n : Nat) (x0 : (List Int)) (x3 : tState.in) (x4 : tPuzzle.in) (x7 : (Option treach.in)) (x9 : tPuzzle.in) (x10 : Int) (x11 : (List ((List Int) × Bool))) (x30 : (List tState.in)) (x31 : Int) (x32 : Int), im_hardest_l6_e k n x0 x3 x4 x7 x9 x10 x11 x30 x31 x32 = im_hardest_l6 k n x0 x3 x4 x7 x9 x10 x11 x30 x31 x32
  | 0, x0, x3, x4, x7, x9, x10, x11, x30, x31, x32 => im_hardest_l6_z k x0 x3 x4 x7 x9 x10 x11 x30 x31 x32
  | n + 1, x0, x3, x4, x7, x9, x10, x11, x30, x31, x32 => by
    have ih : (im_hardest_l6_e k n) = im_hardest_l6 k n := by funext y0 y1 y2 y3 y4 y5 y6 y7 y8 y9; exact im_hardest_l6_ev k n y0 y1 y2 y3 y4 y5 y6 y7 y8 y9
    rw [im_hardest_l6_st, ih]; rfl
theorem im_hardest_st (k : Nat) (x0 : (List Int)) (x1 : tState.in) : evFun (im_hardest_E k) [.v T.s, .v tState] (.pr (.v tPuzzle) (.pr (.v I) (.pr (.v T.b) .un))) Tryd.f67 (x0, x1, ()) = im_hardest_s k (im_hardest_l6_e k k) x0 x1 := by kernel_rfl
theorem im_hardest_ev (k : Nat) (x0 : (List Int)) (x1 : tState.in) : evFun (im_hardest_E k) [.v T.s, .v tState] (.pr (.v tPuzzle) (.pr (.v I) (.pr (.v T.b) .un))) Tryd.f67 (x0, x1, ()) = im_hardest k x0 x1 := by
  have h0 : (im_hardest_l6_e k k) = (im_hardest_l6 k k) := by funext y0 y1 y2 y3 y4 y5 y6 y7 y8 y9; exact im_hardest_l6_ev k k y0 y1 y2 y3 y4 y5 y6 y7 y8 y9
  rw [im_hardest_st, h0]; rfl
theorem im_hardest_c (k : Nat) : Contract Tryd.prog 67 (im_hardest_O k) :=
  fun_sound (c := bodyOf Tryd.f67) (tab_ok Tryd_tab_ok rfl rfl) (orc_cons (im_reachOn_c k) (orc_cons (slices_Compare_int_int_c k) orc_nil)) Tryd.func67 (by kernel_rfl) rfl (by kernel_rfl) (by decide) rfl rfl (by kernel_rfl) (by kernel_rfl) (by kernel_rfl) (fun x _ h => (im_hardest_ev k x.1 x.2.1).trans h)
end Ev
/- loop.example/g01207/impl.HardestGoal -/
namespace Ev
open Go Go.Proofs
/-! impl.HardestGoal -/
def im_HardestGoal_s (k : Nat) (x0 : (List Int)) (x1 : tState.in) : Option (tPuzzle.in × (Int × (Bool × Unit))) :=
  (im_hardest k x0 x1).bind fun r1 =>
  some (r1.1, r1.2.1, r1.2.2.1, ())
def im_HardestGoal (k : Nat) (x0 : (List Int)) (x1 : tState.in) : Option (tPuzzle.in × (Int × (Bool × Unit))) := im_HardestGoal_s k x0 x1
noncomputable def im_HardestGoal_O (k : Nat) : Orc := { ps := [.v T.s, .v tState], rt := (.pr (.v tPuzzle) (.pr (.v I) (.pr (.v T.b) .un))), F := fun x => im_HardestGoal k x.1 x.2.1 }
noncomputable def im_HardestGoal_E (k : Nat) : Env := { ty := tabTy Tryd_tab, ds := tabDs Tryd_tab, rounds := k, nt := 13, orc := fun g => if Nat.beq g 67 = true then some (im_hardest_O k) else (none), lp := fun _ => none, ct := fun _ => none, plan := fun _ => none }
noncomputable def im_HardestGoal_fin (k : Nat) : Kn (tPuzzle.in × (Int × (Bool × Unit))) := finish (im_HardestGoal_E k) [.v T.s, .v tState] (.pr (.v tPuzzle) (.pr (.v I) (.pr (.v T.b) .un))) Tryd.f29.results.toList
theorem im_HardestGoal_st (k : Nat) (x0 : (List Int)) (x1 : tState.in) : evFun (im_HardestGoal_E k) [.v T.s, .v tState] (.pr (.v tPuzzle) (.pr (.v I) (.pr (.v T.b) .un))) Tryd.f29 (x0, x1, ()) = im_HardestGoal_s k x0 x1 := by kernel_rfl
theorem im_HardestGoal_ev (k : Nat) (x0 : (List Int)) (x1 : tState.in) : evFun (im_HardestGoal_E k) [.v T.s, .v tState] (.pr (.v tPuzzle) (.pr (.v I) (.pr (.v T.b) .un))) Tryd.f29 (x0, x1, ()) = im_HardestGoal k x0 x1 := by
  skip
  rw [im_HardestGoal_st]; rfl
theorem im_HardestGoal_c (k : Nat) : Contract Tryd.prog 29 (im_HardestGoal_O k) :=
  fun_sound (c := bodyOf Tryd.f29) (tab_ok Tryd_tab_ok rfl rfl) (orc_cons (im_hardest_c k) orc_nil) Tryd.func29 (by kernel_rfl) rfl (by kernel_rfl) (by decide) rfl rfl (by kernel_rfl) (by kernel_rfl) (by kernel_rfl) (fun x _ h => (im_HardestGoal_ev k x.1 x.2.1).trans h)
end Ev
/- loop.example/g01207/laws.FnExactHardestGoal -/
namespace Ev
open Go Go.Proofs
/-! laws.FnExactHardestGoal -/
def la_FnExactHardestGoal_s (k : Nat) (x0 : (List Int)) (x1 : tState.in) : Option Bool :=
  if (decide ((1048576 : Int) < (x0.length : Int))) = true then
    some true
  else
    (la_toState k x1).bind fun r1 =>
    (sp_HardestGoal k x0 r1).bind fun r2 =>
    (la_toState k x1).bind fun r3 =>
    (im_HardestGoal k x0 r3).bind fun r4 =>
    (la_eqPuzzle k r4.1 r2.1).bind fun r5 =>
    if (!r5) = true then
      some false
    else
      if (!decide (r4.2.1 = r2.2.1)) = true then
        some false
      else
        if (!(decide (r4.2.2.1 = r2.2.2.1))) = true then
          some false
        else
          some true
def la_FnExactHardestGoal (k : Nat) (x0 : (List Int)) (x1 : tState.in) : Option Bool := la_FnExactHardestGoal_s k x0 x1
noncomputable def la_FnExactHardestGoal_O (k : Nat) : Orc := { ps := [.v T.s, .v tState], rt := (.v T.b), F := fun x => la_FnExactHardestGoal k x.1 x.2.1 }
noncomputable def la_FnExactHardestGoal_E (k : Nat) : Env := { ty := tabTy Tryd_tab, ds := tabDs Tryd_tab, rounds := k, nt := 44, orc := fun g => if Nat.beq g 17 = true then some (la_eqPuzzle_O k) else (if Nat.beq g 24 = true then some (la_toState_O k) else (if Nat.beq g 28 = true then some (sp_HardestGoal_O k) else (if Nat.beq g 29 = true then some (im_HardestGoal_O k) else (none)))), lp := fun _ => none, ct := fun _ => none, plan := fun _ => none }
noncomputable def la_FnExactHardestGoal_fin (k : Nat) : Kn Bool := finish (la_FnExactHardestGoal_E k) [.v T.s, .v tState] (.v T.b) Tryd.f7.results.toList
theorem la_FnExactHardestGoal_st (k : Nat) (x0 : (List Int)) (x1 : tState.in) : evFun (la_FnExactHardestGoal_E k) [.v T.s, .v tState] (.v T.b) Tryd.f7 (x0, x1, ()) = la_FnExactHardestGoal_s k x0 x1 := by kernel_rfl
theorem la_FnExactHardestGoal_ev (k : Nat) (x0 : (List Int)) (x1 : tState.in) : evFun (la_FnExactHardestGoal_E k) [.v T.s, .v tState] (.v T.b) Tryd.f7 (x0, x1, ()) = la_FnExactHardestGoal k x0 x1 := by
  skip
  rw [la_FnExactHardestGoal_st]; rfl
theorem la_FnExactHardestGoal_c (k : Nat) : Contract Tryd.prog 7 (la_FnExactHardestGoal_O k) :=
  fun_sound (c := bodyOf Tryd.f7) (tab_ok Tryd_tab_ok rfl rfl) (orc_cons (la_eqPuzzle_c k) (orc_cons (la_toState_c k) (orc_cons (sp_HardestGoal_c k) (orc_cons (im_HardestGoal_c k) orc_nil)))) Tryd.func7 (by kernel_rfl) rfl (by kernel_rfl) (by decide) rfl rfl (by kernel_rfl) (by kernel_rfl) (by kernel_rfl) (fun x _ h => (la_FnExactHardestGoal_ev k x.1 x.2.1).trans h)
end Ev
/- The plain law of HardestGoal. -/
namespace Ev
open Go Go.Proofs
def lt3 (a1 a2 a3 b1 b2 b3 : Int) : Prop := a1 < b1 ∨ (a1 = b1 ∧ (a2 < b2 ∨ (a2 = b2 ∧ a3 < b3)))
theorem cmpInt_is (k : Nat) (a b : Int) : cmp_Compare_int k a b = some (if a < b then -1 else if b < a then 1 else 0) := by
  have e : ∀ x : Int, cmp_isNaN_int k x = some false := fun x => by
    show some (!decide (x = x)) = _
    simp
  unfold cmp_Compare_int cmp_Compare_int_s
  rw [e, Option.bind_some, e, Option.bind_some, if_neg (by decide), if_neg (by decide)]
  by_cases h : a < b
  · rw [if_pos (dt h), if_pos h]
  · rw [if_neg (ndt h), if_neg h]
    by_cases h2 : b < a
    · rw [if_pos (dt h2), if_pos h2]
    · rw [if_neg (ndt h2), if_neg h2]
theorem cmp_step (k n : Nat) (x y : List Int) (j : Nat) (a b : Int) (_hx : x.length = 3) (_hy : y.length = 3) (_hj : j < 3) (ha : x.getD j 0 = a) (hb : y.getD j 0 = b) :
    slices_Compare_int_int_l2 k (n + 1) x y x 3 (j : Int) = if a < b then some (-1) else if b < a then some 1 else slices_Compare_int_int_l2 k n x y x 3 ((j + 1 : Nat) : Int) := by
  show slices_Compare_int_int_l2s k _ _ _ _ _ _ = _
  unfold slices_Compare_int_int_l2s
  have e1 : rdT I x (j : Int) = a := ha
  have e2 : rdT I y (j : Int) = b := hb
  rw [if_pos (dt (by omega)), inb_eq (by omega), if_neg (ndt (by omega)), inb_eq (by omega), e1, e2, cmpInt_is, Option.bind_some, wr (by omega)]
  by_cases h : a < b
  · rw [if_pos h, if_pos h, if_pos (nd (by omega))]
  · rw [if_neg h, if_neg h]
    by_cases h2 : b < a
    · rw [if_pos h2, if_pos h2, if_pos (nd (by omega))]
    · rw [if_neg h2, if_neg h2, if_neg (nnd rfl)]; rfl
theorem compare_is (k : Nat) (_hk : 2097152 ≤ k) (a1 a2 a3 b1 b2 b3 : Int) : ∃ r, slices_Compare_int_int k [a1, a2, a3] [b1, b2, b3] = some r ∧ (r < 0 ↔ lt3 a1 a2 a3 b1 b2 b3) := by
  obtain ⟨n, rfl⟩ : ∃ n, k = n + 4 := ⟨k - 4, by omega⟩
  have e : slices_Compare_int_int (n + 4) [a1, a2, a3] [b1, b2, b3] = slices_Compare_int_int_l2 (n + 4) (n + 4) [a1, a2, a3] [b1, b2, b3] [a1, a2, a3] 3 ((0 : Nat) : Int) := rfl
  have e3 : slices_Compare_int_int_l2 (n + 4) (n + 1) [a1, a2, a3] [b1, b2, b3] [a1, a2, a3] 3 ((3 : Nat) : Int) = some 0 := rfl
  rw [e, cmp_step (n + 4) (n + 3) _ _ 0 a1 b1 rfl rfl (by omega) rfl rfl, cmp_step (n + 4) (n + 2) _ _ 1 a2 b2 rfl rfl (by omega) rfl rfl, cmp_step (n + 4) (n + 1) _ _ 2 a3 b3 rfl rfl (by omega) rfl rfl, e3]
  unfold lt3
  split
  · exact ⟨_, rfl, by omega⟩
  · split
    · exact ⟨_, rfl, by omega⟩
    · split
      · exact ⟨_, rfl, by omega⟩
      · split
        · exact ⟨_, rfl, by omega⟩
        · split
          · exact ⟨_, rfl, by omega⟩
          · split
            · exact ⟨_, rfl, by omega⟩
            · exact ⟨_, rfl, by omega⟩
theorem before_is (k : Nat) (p q : tPuzzle.in) : ∃ b, sp_puBefore k p q = some b ∧ (b = true ↔ lt3 p.2.2.2.1 p.2.2.1 p.2.2.2.2.1 q.2.2.2.1 q.2.2.1 q.2.2.2.2.1) := by
  have gen : ∀ (a1 a2 a3 b1 b2 b3 : Int), ∃ b, (if (!decide (a1 = b1)) = true then some (decide (a1 < b1)) else if (!decide (a2 = b2)) = true then some (decide (a2 < b2)) else some (decide (a3 < b3))) = some b ∧ (b = true ↔ lt3 a1 a2 a3 b1 b2 b3) := by
    intro a1 a2 a3 b1 b2 b3
    unfold lt3
    by_cases h1 : a1 = b1
    · rw [if_neg (nnd h1)]
      by_cases h2 : a2 = b2
      · rw [if_neg (nnd h2)]; exact ⟨_, rfl, by rw [decide_eq_true_eq]; omega⟩
      · rw [if_pos (nd h2)]; exact ⟨_, rfl, by rw [decide_eq_true_eq]; omega⟩
    · rw [if_pos (nd h1)]; exact ⟨_, rfl, by rw [decide_eq_true_eq]; omega⟩
  exact gen _ _ _ _ _ _
theorem same_loop (k : Nat) (a b : List Int) (hl : a.length = b.length) (hb : a.length ≤ 1000000000) : ∀ (d n j : Nat), a.length = j + d → d < n → sp_l1Same_l4 k n a b (a.length : Int) (j : Int) = some (decide (a.drop j = b.drop j))
  | 0, n + 1, j, h, _ => by
    show sp_l1Same_l4s k _ _ _ _ _ = _
    unfold sp_l1Same_l4s
    rw [if_neg (ndt (by omega)), List.drop_of_length_le (by omega), List.drop_of_length_le (by omega)]; simp
  | d + 1, n + 1, j, h, hn => by
    show sp_l1Same_l4s k _ _ _ _ _ = _
    unfold sp_l1Same_l4s
    have e1 : rdT I a (j : Int) = a.getD j 0 := rfl
    have e2 : rdT I b (j : Int) = b.getD j 0 := rfl
    have ih := same_loop k a b hl hb d n (j + 1) (by omega) (by omega)
    rw [if_pos (dt (by omega)), inb_eq (by omega), inb_eq (by omega), e1, e2, wr (by omega), getD_drop a j 0 (by omega), getD_drop b j 0 (by omega)]
    by_cases h1 : a.getD j 0 = b.getD j 0
    · rw [if_neg (nnd h1), h1]
      refine (show _ = _ from ih).trans (sdd ?_)
      simp
    · rw [if_pos (nd h1), decide_eq_false (fun q => h1 (List.cons.inj q).1)]
theorem same_is (k : Nat) (a b : List Int) (_ha : a.length < k) (hb : a.length ≤ 1000000000) : sp_l1Same k a b = some (decide (a = b)) := by
  show (if (!decide ((a.length : Int) = (b.length : Int))) = true then _ else _) = _
  by_cases h : a.length = b.length
  · rw [if_neg (nnd (by omega))]
    exact (same_loop k a b h hb a.length k 0 (by omega) (by omega)).trans (by simp)
  · rw [if_pos (nd (by omega)), decide_eq_false (fun q => h (by rw [q]))]
theorem eqLI : ∀ (a b : List Int), eqL (T.eqv I) a b = true ↔ a = b
  | [], [] => by simp [eqL]
  | [], _ :: _ => by simp [eqL]
  | _ :: _, [] => by simp [eqL]
  | x :: a, y :: b => by
    have ih := eqLI a b
    show ((decide (x = y)) && eqL (T.eqv I) a b) = true ↔ _
    rw [Bool.and_eq_true, ih]; simp
abbrev KT : T := .ar 3 I
theorem lkK (key : List Int) : ∀ seen : List (List Int), (lk KT T.b (seen.map fun g => (g, true)) key).getD false = decide (key ∈ seen)
  | [] => by simp [lk]
  | s :: seen => by
    have ih := lkK key seen
    have e : lk KT T.b ((s :: seen).map fun g => (g, true)) key = if eqL (T.eqv I) key s = true then some true else lk KT T.b (seen.map fun g => (g, true)) key := by
      unfold lk
      rw [List.map_cons, List.find?_cons]
      have e0 : T.eqv KT key ((s, true) : List Int × Bool).1 = eqL (T.eqv I) key s := rfl
      rw [e0]
      cases eqL (T.eqv I) key s <;> rfl
    rw [e]
    by_cases h : key = s
    · rw [if_pos ((eqLI _ _).2 h)]; simp [h]
    · rw [if_neg (fun q => h ((eqLI _ _).1 q)), ih]; simp [h]
theorem upK (key : List Int) : ∀ seen : List (List Int), key ∉ seen → up KT T.b (seen.map fun g => (g, true)) key true = (seen ++ [key]).map fun g => (g, true)
  | [], _ => rfl
  | s :: seen, h => by
    rw [List.mem_cons] at h
    have ih := upK key seen (fun q => h (.inr q))
    show (if eqL (T.eqv I) key s = true then _ else _) = _
    rw [if_neg (fun q => h (.inl ((eqLI _ _).1 q)))]
    show _ :: up KT T.b (seen.map fun g => (g, true)) key true = _
    rw [ih]; rfl
def ky (s : tState.in) : List Int := [s.2.1, s.1, s.2.2.1.1]
def mkP (b : List Int) (s0 s : tState.in) : tPuzzle.in := (b, s0, s.1, s.2.1, s.2.2.1.1, ())
def pz0 : tPuzzle.in := (([] : (List Int)), sz0, (0 : Int), (0 : Int), (0 : Int), ())
theorem found_loop (k : Nat) (hk : 2097152 ≤ k) (g5 : (List Int) → tState.in → tPuzzle.in → tPuzzle.in → Int → (List (List Int)) → (List twyNode.in) → Int → Int → Option (tPuzzle.in × (Int × Unit))) (b : List Int) (s0 : tState.in) (x4 best : tPuzzle.in) (most : Int) (seen : List (List Int)) (nd0 : twyNode.in) (key : List Int) (all : List twyNode.in) (x27 x28 : Int) (h3 : ∀ s ∈ seen, s.length = 3) (hs : seen.length ≤ 100000000) : ∀ (d n j : Nat) (f : Bool), seen.length = j + d → d < n →
    sp_puHardest_l10 k g5 n b s0 x4 best most seen nd0 key f all x27 x28 () (seen.length : Int) (j : Int) = sp_puHardest_l10 k g5 1 b s0 x4 best most seen nd0 key (f || decide (key ∈ seen.drop j)) all x27 x28 () (seen.length : Int) (seen.length : Int)
  | 0, n + 1, j, f, h, _ => by
    have hj : j = seen.length := by omega
    subst hj
    rw [List.drop_of_length_le (Nat.le_refl _)]
    have : (f || decide (key ∈ ([] : List (List Int)))) = f := by simp
    rw [this]
    show sp_puHardest_l10s k _ _ _ _ _ _ _ _ _ _ _ _ _ _ _ _ _ = sp_puHardest_l10s k _ _ _ _ _ _ _ _ _ _ _ _ _ _ _ _ _
    unfold sp_puHardest_l10s
    rw [if_neg (ndt (by omega))]
    exact (if_neg (ndt (Int.lt_irrefl _))).symm
  | d + 1, n + 1, j, f, h, hn => by
    have ih := fun f => found_loop k hk g5 b s0 x4 best most seen nd0 key all x27 x28 h3 hs d n (j + 1) f (by omega) (by omega)
    show sp_puHardest_l10s k _ _ _ _ _ _ _ _ _ _ _ _ _ _ _ _ _ = _
    unfold sp_puHardest_l10s
    have e1 : seen.getD (j : Int).toNat ([] : List Int) = seen.getD j [] := rfl
    have hm := h3 _ (gmem (z := ([] : List Int)) seen (j := j) (by omega))
    rw [if_pos (dt (by omega)), inb_eq (by omega), e1, wr (by omega), getD_drop seen j [] (by omega)]
    cases f with
    | true =>
      rw [if_pos rfl]
      refine (show _ = _ from ih true).trans ?_
      simp
    | false =>
      rw [if_neg (by decide), same_is k _ _ (by omega) (by omega), Option.bind_some]
      refine (show _ = _ from ih _).trans ?_
      have : (decide (seen.getD j [] = key) || decide (key ∈ seen.drop (j + 1))) = (false || decide (key ∈ seen.getD j [] :: seen.drop (j + 1))) := by
        rw [Bool.false_or, Bool.eq_iff_iff]
        simp only [Bool.or_eq_true, decide_eq_true_eq, List.mem_cons]
        constructor
        · rintro (q | q)
          · exact .inl q.symm
          · exact .inr q
        · rintro (q | q)
          · exact .inl q.symm
          · exact .inr q
      rw [this]
abbrev G5 := (List Int) → tState.in → tPuzzle.in → tPuzzle.in → Int → (List (List Int)) → (List twyNode.in) → Int → Int → Option (tPuzzle.in × (Int × Unit))
theorem fin_eq (k : Nat) (g5 : G5) (b : List Int) (s0 : tState.in) (x4 best : tPuzzle.in) (most : Int) (seen : List (List Int)) (nd0 : twyNode.in) (key : List Int) (f : Bool) (all : List twyNode.in) (x27 x28 : Int) :
    sp_puHardest_l10 k g5 1 b s0 x4 best most seen nd0 key f all x27 x28 () (seen.length : Int) (seen.length : Int) =
      if f = true then g5 b s0 x4 best most seen all x27 (IntKind.i64.wrap (x28 + 1)) else
      if seen.length + ([key] : List (List Int)).length ≤ 17179869184 then (
        if decide (most < nd0.2.1) = true then g5 b s0 x4 (mkP b s0 nd0.1) nd0.2.1 (seen ++ [key]) all x27 (IntKind.i64.wrap (x28 + 1)) else
        if decide (nd0.2.1 = most) = true then (sp_puBefore k (mkP b s0 nd0.1) best).bind fun r4 =>
          if r4 = true then g5 b s0 x4 (mkP b s0 nd0.1) nd0.2.1 (seen ++ [key]) all x27 (IntKind.i64.wrap (x28 + 1)) else g5 b s0 x4 best most (seen ++ [key]) all x27 (IntKind.i64.wrap (x28 + 1))
        else g5 b s0 x4 best most (seen ++ [key]) all x27 (IntKind.i64.wrap (x28 + 1))) else none := by
  show sp_puHardest_l10s k _ _ _ _ _ _ _ _ _ _ _ _ _ _ _ _ _ = _
  unfold sp_puHardest_l10s
  rw [if_neg (ndt (Int.lt_irrefl _))]
  rfl
theorem sp_step (k : Nat) (_hk : 1000000000 ≤ k) (n : Nat) (b : List Int) (s0 : tState.in) (x4 best : tPuzzle.in) (most : Int) (seen : List (List Int)) (all : List twyNode.in) (j : Nat) (_hj : j < all.length) (_hall : all.length ≤ 49000000) (h3 : ∀ s ∈ seen, s.length = 3) (hs : seen.length ≤ 100000000) {nd0 : twyNode.in} (hnd : all.getD j zN = nd0) :
    sp_puHardest_l5 k (n + 1) b s0 x4 best most seen all (all.length : Int) (j : Int) = sp_puHardest_l10 k (sp_puHardest_l5 k n) 1 b s0 x4 best most seen nd0 (ky nd0.1) (decide (ky nd0.1 ∈ seen)) all (all.length : Int) (j : Int) () (seen.length : Int) (seen.length : Int) := by
  subst hnd
  have q := found_loop k (by omega) (sp_puHardest_l5 k n) b s0 x4 best most seen (all.getD j zN) (ky (all.getD j zN).1) all (all.length : Int) (j : Int) h3 hs seen.length k 0 false (by omega) (by omega)
  rw [List.drop_zero, Bool.false_or] at q
  rw [← q]
  show sp_puHardest_l5s k _ _ _ _ _ _ _ _ _ _ _ = _
  unfold sp_puHardest_l5s
  rw [if_pos (dt (by omega)), inb_eq (by omega)]
  rfl
abbrev G6 := (List Int) → tState.in → tPuzzle.in → (Option treach.in) → tPuzzle.in → Int → (List ((List Int) × Bool)) → (List tState.in) → Int → Int → Option (tPuzzle.in × (Int × (Bool × Unit)))
theorem im_step (k : Nat) (hk : 2097152 ≤ k) (g6 : G6) (b : List Int) (s0 : tState.in) (x4 best : tPuzzle.in) (most : Int) (seen : List (List Int)) (L : List En) (j : Nat) (hj : j < L.length) (_hL : L.length ≤ 49000000) {en : En} (hen : L.getD j e0 = en) :
    ∃ r : Int, (r < 0 ↔ lt3 en.s.2.1 en.s.1 en.s.2.2.1.1 best.2.2.2.1 best.2.2.1 best.2.2.2.2.1) ∧ im_hardest_l6s k g6 b s0 x4 (some (enc L)) best most (seen.map fun g => (g, true)) (L.map En.s) (L.length : Int) (j : Int) =
      if decide (ky en.s ∈ seen) = true then g6 b s0 x4 (some (enc L)) best most (seen.map fun g => (g, true)) (L.map En.s) (L.length : Int) ((j + 1 : Nat) : Int) else
      if decide (most < en.f) = true then g6 b s0 x4 (some (enc L)) (mkP b s0 en.s) en.f (up KT T.b (seen.map fun g => (g, true)) (ky en.s) true) (L.map En.s) (L.length : Int) ((j + 1 : Nat) : Int) else
      if decide (en.f = most) = true then (if decide (r < 0) = true then g6 b s0 x4 (some (enc L)) (mkP b s0 en.s) en.f (up KT T.b (seen.map fun g => (g, true)) (ky en.s) true) (L.map En.s) (L.length : Int) ((j + 1 : Nat) : Int) else g6 b s0 x4 (some (enc L)) best most (up KT T.b (seen.map fun g => (g, true)) (ky en.s) true) (L.map En.s) (L.length : Int) ((j + 1 : Nat) : Int))
      else g6 b s0 x4 (some (enc L)) best most (up KT T.b (seen.map fun g => (g, true)) (ky en.s) true) (L.map En.s) (L.length : Int) ((j + 1 : Nat) : Int) := by
  obtain ⟨r, er, hr⟩ := compare_is k hk en.s.2.1 en.s.1 en.s.2.2.1.1 best.2.2.2.1 best.2.2.1 best.2.2.2.2.1
  refine ⟨r, hr, ?_⟩
  have e1 : rdT tState (L.map En.s) (j : Int) = en.s := by rw [← hen]; exact gmap (z := e0) En.s L _ hj
  have e2 : rdT I (enc L).2.2.2.1 (j : Int) = en.f := by rw [← hen]; exact gmap (z := e0) En.f L _ hj
  have l4 : (enc L).2.2.2.1.length = L.length := List.length_map ..
  have l5 : (L.map En.s).length = L.length := List.length_map ..
  have ek : ((((List.replicate 3 (0 : Int)).set 0 en.s.2.1).set 1 en.s.1).set 2 en.s.2.2.1.1) = ky en.s := rfl
  have er' : slices_Compare_int_int k (ky en.s) ([best.2.2.2.1, best.2.2.1, best.2.2.2.2.1] : List Int) = some r := er
  have ew : IntKind.i64.wrap ((j : Int) + 1) = ((j + 1 : Nat) : Int) := by rw [wr (by omega)]; rfl
  have hin : ∀ {R : Type} (K : Option R), inb (j : Int) (enc L).2.2.2.1.length K = K := fun K => inb_eq (by rw [l4]; omega)
  have hin2 : ∀ {R : Type} (K : Option R), inb (j : Int) (L.map En.s).length K = K := fun K => inb_eq (by rw [l5]; omega)
  unfold im_hardest_l6s
  rw [if_pos (dt (by omega)), hin2, e1, ek, lkK, ew, er']
  simp only [Option.bind_some, hin, e2]
  rfl
theorem hard_loop (k : Nat) (hk : 1000000000 ≤ k) (b : List Int) (s0 : tState.in) {L : List En} {all : List twyNode.in} (ha : all.map pj = L.map pe) (hL : L.length ≤ 49000000) : ∀ (d n1 n2 j : Nat) (best : tPuzzle.in) (most : Int) (seen : List (List Int)), L.length = j + d → d < n1 → d < n2 → seen.length ≤ j → (∀ s ∈ seen, s.length = 3) →
    ∃ best' most', sp_puHardest_l5 k n1 b s0 pz0 best most seen all (all.length : Int) (j : Int) = some (best', most', ()) ∧
      im_hardest_l6 k n2 b s0 pz0 (some (enc L)) best most (seen.map fun g => (g, true)) (L.map En.s) (L.length : Int) (j : Int) = some (if 60 < most' then (pz0, 0, false, ()) else (best', most', true, ())) := by
  intro d
  induction d with
  | zero =>
    intro n1 n2 j best most seen h hn1 hn2 hsl h3
    obtain ⟨n1, rfl⟩ : ∃ m, n1 = m + 1 := ⟨n1 - 1, by omega⟩
    obtain ⟨n2, rfl⟩ : ∃ m, n2 = m + 1 := ⟨n2 - 1, by omega⟩
    have hl := pj_len ha
    refine ⟨best, most, ?_, ?_⟩
    · show sp_puHardest_l5s k _ _ _ _ _ _ _ _ _ _ _ = _
      unfold sp_puHardest_l5s
      rw [if_neg (ndt (by omega))]
    · show im_hardest_l6s k _ _ _ _ _ _ _ _ _ _ _ = _
      unfold im_hardest_l6s
      rw [if_neg (ndt (by omega))]
      by_cases hm : 60 < most
      · rw [if_pos (dt hm), if_pos hm]; rfl
      · rw [if_neg (ndt hm), if_neg hm]
  | succ d ih0 =>
    intro n1 n2 j best most seen h hn1 hn2 hsl h3
    obtain ⟨n1, rfl⟩ : ∃ m, n1 = m + 1 := ⟨n1 - 1, by omega⟩
    obtain ⟨n2, rfl⟩ : ∃ m, n2 = m + 1 := ⟨n2 - 1, by omega⟩
    have hl := pj_len ha
    have hj : j < L.length := by omega
    have es : (all.getD j zN).1 = (L.getD j e0).s := congrArg Prod.fst (pj_at ha hj)
    have ef : (all.getD j zN).2.1 = (L.getD j e0).f := congrArg (fun z => z.2.1) (pj_at ha hj)
    have ih := fun best most seen hs h3 => ih0 n1 n2 (j + 1) best most seen (by omega) (by omega) (by omega) hs h3
    have hsp := sp_step k hk n1 b s0 pz0 best most seen all j (by omega) (by omega) h3 (by omega) rfl
    rw [fin_eq, es, ef] at hsp
    have ew : IntKind.i64.wrap ((j : Int) + 1) = ((j + 1 : Nat) : Int) := by rw [wr (by omega)]; rfl
    rw [ew] at hsp
    obtain ⟨r, hr, him⟩ := im_step k (by omega) (im_hardest_l6 k n2) b s0 pz0 best most seen L j hj hL rfl
    have him' : im_hardest_l6 k (n2 + 1) b s0 pz0 (some (enc L)) best most (seen.map fun g => (g, true)) (L.map En.s) (L.length : Int) (j : Int) = _ := him
    rw [hsp, him']
    clear hsp him him'
    generalize L.getD j e0 = en at hr
    by_cases hin : ky en.s ∈ seen
    · rw [if_pos (dt hin), if_pos (dt hin)]
      exact ih best most seen (by omega) h3
    · obtain ⟨bb, eb, hb⟩ := before_is k (mkP b s0 en.s) best
      have hbr : bb = true ↔ r < 0 := hb.trans hr.symm
      have h3' : ∀ s ∈ seen ++ [ky en.s], s.length = 3 := by
        intro s hs
        rcases List.mem_append.1 hs with hs | hs
        · exact h3 s hs
        · rw [List.mem_singleton] at hs; subst hs; rfl
      have hs' : (seen ++ [ky en.s]).length ≤ j + 1 := by simp; omega
      have ihA := ih (mkP b s0 en.s) en.f _ hs' h3'
      have ihB := ih best most _ hs' h3'
      rw [if_neg (ndt hin), if_neg (ndt hin), if_pos (by simp; omega), upK _ _ hin, eb, Option.bind_some]
      by_cases hm : most < en.f
      · rw [if_pos (dt hm), if_pos (dt hm)]
        exact ihA
      · rw [if_neg (ndt hm), if_neg (ndt hm)]
        by_cases hm2 : en.f = most
        · rw [if_pos (dt hm2), if_pos (dt hm2)]
          by_cases hlt : r < 0
          · rw [if_pos (hbr.2 hlt), if_pos (dt hlt)]
            exact ihA
          · rw [if_neg (fun q => hlt (hbr.1 q)), if_neg (ndt hlt)]
            exact ihB
        · rw [if_neg (ndt hm2), if_neg (ndt hm2)]
          exact ihB
theorem hardest_is (k : Nat) (hk : 1000000000 ≤ k) (b : List Int) (s0 : tState.in) (hs : b.length ≤ 1048576) : ∃ r, sp_HardestGoal k b s0 = some r ∧ im_HardestGoal k b s0 = some r := by
  have d1 : sp_HardestGoal k b s0 = (sp_boAsked k b s0).bind _ := rfl
  have d2 : im_HardestGoal k b s0 = (im_hardest k b s0).bind _ := rfl
  have d3 : im_hardest k b s0 = (im_reachOn k b s0).bind _ := rfl
  have d4 : im_reachOn k b s0 = (im_onBoard k b s0).bind _ := rfl
  rw [d1, d2, d3, d4]
  rcases asked_is k (by omega) b hs s0 with ⟨w, h, bd, e1, e2, h1, h2⟩ | ⟨g, -, h1, h2⟩
  · rw [h1, h2, Option.bind_some, Option.bind_some]
    cases ho : stOk (spl b) s0 with
    | false => exact ⟨_, rfl, rfl⟩
    | true =>
      have ho' := ho
      unfold stOk at ho'
      rw [Bool.and_eq_true] at ho'
      obtain ⟨L, all, hI, ha, hA, hR⟩ := reach_is k hk bd.rc s0 ho'.2 ho'.1 (fun a2 => (im_grid_roll k (spl b) a2.1 a2.2.1).bind fun r3 => some (r3.1, r3.2.1, ())) (fun s c => by
        show (im_grid_roll k (spl b) s c).bind _ = _
        rw [gridRoll_is k bd.rc]; rfl)
      have hL := hI.bd bd.rc
      obtain ⟨best, most, q1, q2⟩ := hard_loop k hk b s0 ha hL L.length k k 0 pz0 (-1) [] (by omega) (by omega) (by omega) (by simp) (fun _ q => by cases q)
      have c1 : sp_puHardest k b s0 = some (best, most, ()) := by
        show (sp_boRead k b).bind _ = _
        rw [e2, Option.bind_some, hA]
        exact q1
      rw [if_neg (show ¬ ((!true) = true) by decide), if_neg (show ¬ ((!true) = true) by decide), hR, c1, Option.bind_some, Option.bind_some, Option.bind_some, if_neg (show ¬ ((!true) = true) by decide), Option.bind_some]
      have l5 : (enc L).1.length = L.length := List.length_map ..
      have q3 : im_hardest_l6 k k b s0 pz0 (some (enc L)) pz0 (-1) [] (enc L).1 ((enc L).1.length : Int) ((0 : Nat) : Int) = some (if 60 < most then (pz0, 0, false, ()) else (best, most, true, ())) := by rw [l5]; exact q2
      refine ⟨if 60 < most then (pz0, 0, false, ()) else (best, most, true, ()), ?_, ?_⟩
      · by_cases hm : 60 < most
        · rw [if_pos hm, if_pos (dt hm)]; rfl
        · rw [if_neg hm, if_neg (ndt hm)]
      · refine (congrArg (fun z => Option.bind z _) q3).trans ?_
        by_cases hm : 60 < most
        · rw [if_pos hm]; rfl
        · rw [if_neg hm]; rfl
  · rw [h1, h2]; exact ⟨_, rfl, rfl⟩
theorem law_HardestGoal (k : Nat) (hk : 1000000000 ≤ k) (b : List Int) (s : tState.in) : la_FnExactHardestGoal k b s = some true := by
  show (if decide ((1048576 : Int) < (b.length : Int)) = true then some true else _) = _
  by_cases hy : (1048576 : Int) < (b.length : Int)
  · rw [if_pos (dt hy)]
  · rw [if_neg (ndt hy)]
    obtain ⟨r, e1, e2⟩ := hardest_is k hk b s (by omega)
    show ((sp_HardestGoal k b s).bind fun r2 => (im_HardestGoal k b s).bind fun r4 => _) = _
    rw [e1, e2, Option.bind_some, Option.bind_some, eqPuzzle_is k _ _ rfl, Option.bind_some, if_neg (by decide), if_neg (nnd rfl), if_neg (nnd rfl)]
theorem pure_FnExactHardestGoal (b : List Int) (s : tState.in) (_ : T.s.InR b) (_ : tState.InR s) : ∃ k, la_FnExactHardestGoal k b s = some true := ⟨1000000000, law_HardestGoal 1000000000 (Nat.le_refl _) b s⟩
end Ev
