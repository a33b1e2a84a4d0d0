/-
  What is proved here: the functions that the law reaches come to the printed functions, and plain facts of these. Conditions: those that each theorem names; none beyond.
-/
import Derived.Test.YtooepfkfickciaaDoorF1
/- loop.example/g01207/impl.reached -/
namespace Ev
open Go Go.Proofs
/-! impl.reached -/
@[reducible] def im_reached_l6_L : List (Nat × Sh) := [(1, (.v (.fn (.pr tState (.pr (.i .u8) T.un)) (.tu (.pr tState (.pr T.b T.un)))))), (5, (.bx 109 (.pr (.o 31 tState) (.pr (.o 3 I) (.pr (.o 5 (.i .u8)) (.pr (.o 3 I) (.pr (.m 107 tState I) .un))))))), (6, (.v I)), (31, (.v I))]
@[reducible] def im_reached_l3_L : List (Nat × Sh) := [(1, (.v (.fn (.pr tState (.pr (.i .u8) T.un)) (.tu (.pr tState (.pr T.b T.un)))))), (5, (.bx 109 (.pr (.o 31 tState) (.pr (.o 3 I) (.pr (.o 5 (.i .u8)) (.pr (.o 3 I) (.pr (.m 107 tState I) .un))))))), (6, (.v I))]
def im_reached_l6s (_k : Nat) (g_l3 : ((tState.in × (Int × Unit)) → Option (tState.in × (Bool × Unit))) → ((List tState.in) × ((List Int) × ((List Int) × ((List Int) × ((List (tState.in × Int)) × Unit))))) → Int → Option (Option treach.in)) (g_l6 : ((tState.in × (Int × Unit)) → Option (tState.in × (Bool × Unit))) → ((List tState.in) × ((List Int) × ((List Int) × ((List Int) × ((List (tState.in × Int)) × Unit))))) → Int → Int → Option (Option treach.in)) (x1 : ((tState.in × (Int × Unit)) → Option (tState.in × (Bool × Unit)))) (x5 : ((List tState.in) × ((List Int) × ((List Int) × ((List Int) × ((List (tState.in × Int)) × Unit)))))) (x6 : Int) (x31 : Int) : Option (Option treach.in) :=
  if (decide (x31 < (4 : Int))) = true then
    inb x6 x5.1.length (
      inb x31 ([110, 101, 115, 119] : List Int).length (
        (x1 ((x5.1.getD (x6).toNat ((0 : Int), (0 : Int), ((0 : Int), (0 : Int), (0 : Int), (0 : Int), (0 : Int), (0 : Int), ()), ())), (([110, 101, 115, 119] : List Int).getD (x31).toNat 0), ())).bind fun r1 =>
        if (!r1.2.1) = true then
          g_l6 x1 (x5.1, x5.2.1, x5.2.2.1, x5.2.2.2.1, x5.2.2.2.2.1, ()) x6 (IntKind.i64.wrap (x31 + (1 : Int)))
        else
          if (lk tState I x5.2.2.2.2.1 r1.1).isSome = true then
            g_l6 x1 (x5.1, x5.2.1, x5.2.2.1, x5.2.2.2.1, x5.2.2.2.2.1, ()) x6 (IntKind.i64.wrap (x31 + (1 : Int)))
          else
            inb x31 ([110, 101, 115, 119] : List Int).length (
              inb x6 x5.2.2.2.1.length (
                if x5.1.length + ([r1.1] : List tState.in).length ≤ 17179869184 then (
                  if x5.2.1.length + ([x6] : List Int).length ≤ 17179869184 then (
                    if x5.2.2.1.length + ([(([110, 101, 115, 119] : List Int).getD (x31).toNat 0)] : List Int).length ≤ 17179869184 then (
                      if x5.2.2.2.1.length + ([(IntKind.i64.wrap ((x5.2.2.2.1.getD (x6).toNat (0 : Int)) + (1 : Int)))] : List Int).length ≤ 17179869184 then (
                        g_l6 x1 ((x5.1 ++ ([r1.1] : List tState.in)), (x5.2.1 ++ ([x6] : List Int)), (x5.2.2.1 ++ ([(([110, 101, 115, 119] : List Int).getD (x31).toNat 0)] : List Int)), (x5.2.2.2.1 ++ ([(IntKind.i64.wrap ((x5.2.2.2.1.getD (x6).toNat (0 : Int)) + (1 : Int)))] : List Int)), (up tState I x5.2.2.2.2.1 r1.1 (x5.1.length : Int)), ()) x6 (IntKind.i64.wrap (x31 + (1 : Int)))) else none) else none) else none) else none))))
  else
    g_l3 x1 (x5.1, x5.2.1, x5.2.2.1, x5.2.2.2.1, x5.2.2.2.2.1, ()) (IntKind.i64.wrap (x6 + (1 : Int)))
def im_reached_l6 (k : Nat) (g_l3 : ((tState.in × (Int × Unit)) → Option (tState.in × (Bool × Unit))) → ((List tState.in) × ((List Int) × ((List Int) × ((List Int) × ((List (tState.in × Int)) × Unit))))) → Int → Option (Option treach.in)) : Nat → ((tState.in × (Int × Unit)) → Option (tState.in × (Bool × Unit))) → ((List tState.in) × ((List Int) × ((List Int) × ((List Int) × ((List (tState.in × Int)) × Unit))))) → Int → Int → Option (Option treach.in)
  | 0, _, _, _, _ => none
  | n + 1, x1, x5, x6, x31 => im_reached_l6s k g_l3 (im_reached_l6 k g_l3 n) x1 x5 x6 x31
def im_reached_l3s (_k : Nat) (c_l6 : (((tState.in × (Int × Unit)) → Option (tState.in × (Bool × Unit))) → ((List tState.in) × ((List Int) × ((List Int) × ((List Int) × ((List (tState.in × Int)) × Unit))))) → Int → Option (Option treach.in)) → ((tState.in × (Int × Unit)) → Option (tState.in × (Bool × Unit))) → ((List tState.in) × ((List Int) × ((List Int) × ((List Int) × ((List (tState.in × Int)) × Unit))))) → Int → Int → Option (Option treach.in)) (g_l3 : ((tState.in × (Int × Unit)) → Option (tState.in × (Bool × Unit))) → ((List tState.in) × ((List Int) × ((List Int) × ((List Int) × ((List (tState.in × Int)) × Unit))))) → Int → Option (Option treach.in)) (x1 : ((tState.in × (Int × Unit)) → Option (tState.in × (Bool × Unit)))) (x5 : ((List tState.in) × ((List Int) × ((List Int) × ((List Int) × ((List (tState.in × Int)) × Unit)))))) (x6 : Int) : Option (Option treach.in) :=
  if (decide (x6 < (x5.1.length : Int))) = true then
    c_l6 g_l3 x1 (x5.1, x5.2.1, x5.2.2.1, x5.2.2.2.1, x5.2.2.2.2.1, ()) x6 (0 : Int)
  else
    some (some (x5.1, x5.2.1, x5.2.2.1, x5.2.2.2.1, x5.2.2.2.2.1, ()))
def im_reached_l3 (k : Nat)  : Nat → ((tState.in × (Int × Unit)) → Option (tState.in × (Bool × Unit))) → ((List tState.in) × ((List Int) × ((List Int) × ((List Int) × ((List (tState.in × Int)) × Unit))))) → Int → Option (Option treach.in)
  | 0, _, _, _ => none
  | n + 1, x1, x5, x6 => im_reached_l3s k (fun g0 => im_reached_l6 k g0 k) (im_reached_l3 k n) x1 x5 x6
def im_reached_s (_k : Nat) (c_l3 : ((tState.in × (Int × Unit)) → Option (tState.in × (Bool × Unit))) → ((List tState.in) × ((List Int) × ((List Int) × ((List Int) × ((List (tState.in × Int)) × Unit))))) → Int → Option (Option treach.in)) (x0 : tState.in) (x1 : ((tState.in × (Int × Unit)) → Option (tState.in × (Bool × Unit)))) : Option (Option treach.in) :=
  c_l3 x1 (([x0] : List tState.in), ([(-1 : Int)] : List Int), ([(0 : Int)] : List Int), ([(0 : Int)] : List Int), (up tState I ([] : List (tState.in × Int)) x0 (0 : Int)), ()) (0 : Int)
def im_reached (k : Nat) (x0 : tState.in) (x1 : ((tState.in × (Int × Unit)) → Option (tState.in × (Bool × Unit)))) : Option (Option treach.in) := im_reached_s k (im_reached_l3 k k) x0 x1
noncomputable def im_reached_O (k : Nat) : Orc := { ps := [.v tState, .v (.fn (.pr tState (.pr (.i .u8) T.un)) (.tu (.pr tState (.pr T.b T.un))))], rt := (.v (.pt treach)), F := fun x => im_reached k x.1 x.2.1 }
noncomputable def im_reached_E (k : Nat) : Env := { ty := tabTy Tryd_tab, ds := tabDs Tryd_tab, rounds := k, nt := 122, orc := fun _ => none, lp := fun i => if Nat.beq i 3 = true then some im_reached_l3_L else (if Nat.beq i 6 = true then some im_reached_l6_L else (none)), ct := fun _ => none, plan := fun i => if Nat.beq i 12 = true then some [(0, []), (1, []), (2, []), (3, []), (4, []), (5, []), (6, []), (7, []), (8, []), (11, []), (12, []), (13, []), (14, []), (15, []), (18, []), (19, []), (20, []), (21, []), (22, []), (23, []), (26, []), (27, []), (28, []), (29, []), (30, []), (31, []), (32, []), (33, []), (34, []), (35, []), (36, []), (37, []), (9, [16, 24, 38]), (10, [16, 24, 38]), (16, [24, 38]), (17, [24, 38]), (24, [38]), (25, [38]), (38, []), (39, []), (40, []), (41, []), (42, []), (43, []), (44, []), (45, []), (46, []), (47, []), (48, []), (49, []), (50, []), (51, [])] else (if Nat.beq i 11 = true then some [(0, []), (1, []), (2, []), (3, []), (4, []), (5, []), (6, []), (7, []), (8, []), (9, []), (10, [])] else (if Nat.beq i 9 = true then some [(0, []), (1, []), (2, []), (3, []), (4, []), (5, []), (6, []), (7, []), (8, []), (9, []), (10, [])] else (if Nat.beq i 8 = true then some [(0, []), (1, []), (2, []), (3, []), (4, []), (5, []), (6, []), (7, []), (8, []), (9, []), (10, [14]), (11, []), (12, []), (13, []), (14, []), (15, []), (16, [])] else (if Nat.beq i 1 = true then some [(0, []), (6, []), (5, [1, 2, 3, 4]), (7, [1, 2, 3, 4]), (8, []), (1, [2, 3, 4]), (2, [3, 4]), (3, [4]), (4, []), (9, []), (10, []), (11, [])] else (none))))) }
noncomputable def im_reached_fin (k : Nat) : Kn (Option treach.in) := finish (im_reached_E k) [.v tState, .v (.fn (.pr tState (.pr (.i .u8) T.un)) (.tu (.pr tState (.pr T.b T.un))))] (.v (.pt treach)) Tryd.f131.results.toList
noncomputable def im_reached_l6_e (k : Nat) (g_l3 : ((tState.in × (Int × Unit)) → Option (tState.in × (Bool × Unit))) → ((List tState.in) × ((List Int) × ((List Int) × ((List Int) × ((List (tState.in × Int)) × Unit))))) → Int → Option (Option treach.in)) (n : Nat) (x1 : ((tState.in × (Int × Unit)) → Option (tState.in × (Bool × Unit)))) (x5 : ((List tState.in) × ((List Int) × ((List Int) × ((List Int) × ((List (tState.in × Int)) × Unit)))))) (x6 : Int) (x31 : Int) : Option (Option treach.in) := loopF (im_reached_E k) im_reached_l6_L (ev (im_reached_E k) (sub (bodyOf Tryd.f131) [.r, .r, .l, .r, .c, .c, .r, .l, .c, .r, .c, .c])) (kont (im_reached_E k) (bodyOf Tryd.f131) [.r, .r, .l, .r, .c, .c, .r, .l, .c, .r, .c] [⟨im_reached_l3_L, fun d => g_l3 d.1 d.2.1 d.2.2.1⟩] (im_reached_fin k)) n (x1, x5, x6, x31, ())
theorem im_reached_l6_z (k : Nat) (g_l3 : ((tState.in × (Int × Unit)) → Option (tState.in × (Bool × Unit))) → ((List tState.in) × ((List Int) × ((List Int) × ((List Int) × ((List (tState.in × Int)) × Unit))))) → Int → Option (Option treach.in)) (x1 : ((tState.in × (Int × Unit)) → Option (tState.in × (Bool × Unit)))) (x5 : ((List tState.in) × ((List Int) × ((List Int) × ((List Int) × ((List (tState.in × Int)) × Unit)))))) (x6 : Int) (x31 : Int) : im_reached_l6_e k g_l3 0 x1 x5 x6 x31 = none := by kernel_rfl
theorem im_reached_l6_st (k : Nat) (g_l3 : ((tState.in × (Int × Unit)) → Option (tState.in × (Bool × Unit))) → ((List tState.in) × ((List Int) × ((List Int) × ((List Int) × ((List (tState.in × Int)) × Unit))))) → Int → Option (Option treach.in)) (n : Nat) (x1 : ((tState.in × (Int × Unit)) → Option (tState.in × (Bool × Unit)))) (x5 : ((List tState.in) × ((List Int) × ((List Int) × ((List Int) × ((List (tState.in × Int)) × Unit)))))) (x6 : Int) (x31 : Int) : im_reached_l6_e k g_l3 (n + 1) x1 x5 x6 x31 = im_reached_l6s k g_l3 (im_reached_l6_e k g_l3 n) x1 x5 x6 x31 := by kernel_rfl
theorem im_reached_l6_ev (k : Nat) (g_l3 : ((tState.in × (Int × Unit)) → Option (tState.in × (Bool × Unit))) → ((List tState.in) × ((List Int) × ((List Int) × ((List Int) × ((List (tState.in × Int)) × Unit))))) → Int → Option (Option treach.in)) : ∀ (n : Nat) (x1 : ((tState.in × (Int × Unit)) → Option (tState.in × (Bool × Unit)))) (x5 : ((List tState.in) × ((List Int) × ((List Int) × ((List Int) × ((List (tState.in × Int)) × Unit)))))) (x6 : Int) (x31 : Int), im_reached_l6_e k g_l3 n x1 x5 x6 x31 = im_reached_l6 k g_l3 n x1 x5 x6 x31
  | 0, x1, x5, x6, x31 => im_reached_l6_z k g_l3 x1 x5 x6 x31
  | n + 1, x1, x5, x6, x31 => by
    have ih : (im_reached_l6_e k g_l3 n) = im_reached_l6 k g_l3 n := by funext y0 y1 y2 y3; exact im_reached_l6_ev k g_l3 n y0 y1 y2 y3
    rw [im_reached_l6_st, ih]; rfl
noncomputable def im_reached_l3_e (k : Nat)  (n : Nat) (x1 : ((tState.in × (Int × Unit)) → Option (tState.in × (Bool × Unit)))) (x5 : ((List tState.in) × ((List Int) × ((List Int) × ((List Int) × ((List (tState.in × Int)) × Unit)))))) (x6 : Int) : Option (Option treach.in) := loopF (im_reached_E k) im_reached_l3_L (ev (im_reached_E k) (sub (bodyOf Tryd.f131) [.r, .r, .l, .r, .c, .c])) (kont (im_reached_E k) (bodyOf Tryd.f131) [.r, .r, .l, .r, .c] [] (im_reached_fin k)) n (x1, x5, x6, ())
theorem im_reached_l3_z (k : Nat)  (x1 : ((tState.in × (Int × Unit)) → Option (tState.in × (Bool × Unit)))) (x5 : ((List tState.in) × ((List Int) × ((List Int) × ((List Int) × ((List (tState.in × Int)) × Unit)))))) (x6 : Int) : im_reached_l3_e k 0 x1 x5 x6 = none := by kernel_rfl
theorem im_reached_l3_st (k : Nat)  (n : Nat) (x1 : ((tState.in × (Int × Unit)) → Option (tState.in × (Bool × Unit)))) (x5 : ((List tState.in) × ((List Int) × ((List Int) × ((List Int) × ((List (tState.in × Int)) × Unit)))))) (x6 : Int) : im_reached_l3_e k (n + 1) x1 x5 x6 = im_reached_l3s k (fun g0 => im_reached_l6_e k g0 k) (im_reached_l3_e k n) x1 x5 x6 := by kernel_rfl
theorem im_reached_l3_ev (k : Nat)  : ∀ (n : Nat) (x1 : ((tState.in × (Int × Unit)) → Option (tState.in × (Bool × Unit)))) (x5 : ((List tState.in) × ((List Int) × ((List Int) × ((List Int) × ((List (tState.in × Int)) × Unit)))))) (x6 : Int), im_reached_l3_e k n x1 x5 x6 = im_reached_l3 k n x1 x5 x6
  | 0, x1, x5, x6 => im_reached_l3_z k x1 x5 x6
  | n + 1, x1, x5, x6 => by
    have h0 : (fun g0 => im_reached_l6_e k g0 k) = (fun g0 => im_reached_l6 k g0 k) := by funext g0 y0 y1 y2 y3; exact im_reached_l6_ev k g0 k y0 y1 y2 y3
    have ih : (im_reached_l3_e k n) = im_reached_l3 k n := by funext y0 y1 y2; exact im_reached_l3_ev k n y0 y1 y2
    rw [im_reached_l3_st, h0, ih]; rfl
theorem im_reached_st (k : Nat) (x0 : tState.in) (x1 : ((tState.in × (Int × Unit)) → Option (tState.in × (Bool × Unit)))) : evFun (im_reached_E k) [.v tState, .v (.fn (.pr tState (.pr (.i .u8) T.un)) (.tu (.pr tState (.pr T.b T.un))))] (.v (.pt treach)) Tryd.f131 (x0, x1, ()) = im_reached_s k (im_reached_l3_e k k) x0 x1 := by kernel_rfl
theorem im_reached_ev (k : Nat) (x0 : tState.in) (x1 : ((tState.in × (Int × Unit)) → Option (tState.in × (Bool × Unit)))) : evFun (im_reached_E k) [.v tState, .v (.fn (.pr tState (.pr (.i .u8) T.un)) (.tu (.pr tState (.pr T.b T.un))))] (.v (.pt treach)) Tryd.f131 (x0, x1, ()) = im_reached k x0 x1 := by
  have h0 : (im_reached_l3_e k k) = (im_reached_l3 k k) := by funext y0 y1 y2; exact im_reached_l3_ev k k y0 y1 y2
  rw [im_reached_st, h0]; rfl
theorem im_reached_c (k : Nat) : Contract Tryd.prog 131 (im_reached_O k) :=
  fun_sound (c := bodyOf Tryd.f131) (tab_ok Tryd_tab_ok rfl rfl) orc_nil Tryd.func131 (by kernel_rfl) rfl (by kernel_rfl) (by decide) rfl rfl (by kernel_rfl) (by kernel_rfl) (by kernel_rfl) (fun x _ h => (im_reached_ev k x.1 x.2.1).trans h)
end Ev
/- Plain laws: all states that rolls reach, as both sides find them. -/
namespace Ev
open Go

theorem dieEq (x y : tDie.in) : tDie.eqv x y = true ↔ x = y := by
  obtain ⟨a, b, c, d, e, f, u⟩ := x
  obtain ⟨a', b', c', d', e', f', u'⟩ := y
  show (decide (a = a') && (decide (b = b') && (decide (c = c') && (decide (d = d') && (decide (e = e') && (decide (f = f') && true)))))) = true ↔ _
  simp
theorem stEq (x y : tState.in) : tState.eqv x y = true ↔ x = y := by
  obtain ⟨a, b, c, u⟩ := x
  obtain ⟨a', b', c', u'⟩ := y
  show (decide (a = a') && (decide (b = b') && (tDie.eqv c c' && true))) = true ↔ _
  rw [Bool.and_eq_true, Bool.and_eq_true, Bool.and_eq_true, dieEq]
  simp
/-- A state that is found: by which one before, by what direction, and how far it is. -/
structure En where
  s : tState.in
  b : Int
  d : Int
  f : Int
def e0 : En := ⟨sz0, 0, 0, 0⟩
def chrD (d : Int) : Int := ([110, 101, 115, 119] : List Int).getD d.toNat 0
theorem chrD_dir {d : Nat} (h : d < 4) : isDir (chrD (d : Int)) ∧ dirI (chrD (d : Int)) = (d : Int) := by
  match d, h with
  | 0, _ => exact ⟨by decide, rfl⟩
  | 1, _ => exact ⟨by decide, rfl⟩
  | 2, _ => exact ⟨by decide, rfl⟩
  | 3, _ => exact ⟨by decide, rfl⟩
def addE (g : List (List Int)) (L : List En) (q d : Nat) : List En :=
  if flo g (rol (L.getD q e0).s (chrD (d : Int))) = true ∧ rol (L.getD q e0).s (chrD (d : Int)) ∉ L.map En.s then L ++ [⟨rol (L.getD q e0).s (chrD (d : Int)), (q : Int), (d : Int), (L.getD q e0).f + 1⟩] else L
def adds (g : List (List Int)) (q : Nat) : Nat → Nat → List En → List En
  | 0, _, L => L
  | m + 1, d, L => adds g q m (d + 1) (addE g L q d)
structure Inv (g : List (List Int)) (s0 : tState.in) (L : List En) : Prop where
  nd : (L.map En.s).Nodup
  gd : ∀ e ∈ L, flo g e.s = true ∧ dieOk e.s.2.2.1 = true
  r0 : L.getD 0 e0 = ⟨s0, -1, 0, 0⟩
  ne : 0 < L.length
  fr : ∀ j, 0 < j → j < L.length → ∃ i d : Nat, (L.getD j e0).b = (i : Int) ∧ i < j ∧ (L.getD j e0).f = (L.getD i e0).f + 1 ∧ d < 4 ∧ (L.getD j e0).d = (d : Int) ∧ (L.getD j e0).s = rol (L.getD i e0).s (chrD (d : Int))
  fb : ∀ j, j < L.length → 0 ≤ (L.getD j e0).f ∧ (L.getD j e0).f ≤ (j : Int)
theorem gdl {α : Type} {z : α} (L : List α) (e : α) {j : Nat} (h : j < L.length) : (L ++ [e]).getD j z = L.getD j z := by simp [List.getD, List.getElem?_append, h]
theorem gdr {α : Type} {z : α} (L : List α) (e : α) : (L ++ [e]).getD L.length z = e := by simp [List.getD]
theorem gmem {α : Type} {z : α} (L : List α) {j : Nat} (h : j < L.length) : L.getD j z ∈ L := by rw [gd _ _ _ h]; exact List.getElem_mem h
theorem gmap {α β : Type} {z : α} (f : α → β) (L : List α) (y : β) {j : Nat} (h : j < L.length) : (L.map f).getD j y = f (L.getD j z) := by
  rw [gd _ _ _ (by simpa using h), gd _ _ _ h]; simp
def dgt (x : Int) : Prop := 0 ≤ x ∧ x ≤ 9
def rngI (x : Int) (n : Nat) : Prop := 0 ≤ x ∧ x < (n : Int)
theorem dieOk_iff (d : tDie.in) : dieOk d = true ↔ dgt d.1 ∧ dgt d.2.1 ∧ dgt d.2.2.1 ∧ dgt d.2.2.2.1 ∧ dgt d.2.2.2.2.1 ∧ dgt d.2.2.2.2.2.1 := by
  unfold dieOk faces dgt
  simp only [List.all_cons, List.all_nil, Bool.and_true, Bool.and_eq_true, decide_eq_true_eq]
theorem dieOk_rol (d : tDie.in) (c : Int) (h : dieOk d = true) : dieOk (rolD d c) = true := by
  rw [dieOk_iff] at h ⊢
  obtain ⟨h1, h2, h3, h4, h5, h6⟩ := h
  unfold rolD
  split
  · exact ⟨h4, h1, h3, h6, h5, h2⟩
  · split
    · exact ⟨h5, h2, h1, h4, h6, h3⟩
    · split
      · exact ⟨h2, h6, h3, h1, h5, h4⟩
      · exact ⟨h3, h2, h6, h4, h1, h5⟩
theorem Inv.add {g : List (List Int)} {s0 : tState.in} {L : List En} (h : Inv g s0 L) {q d : Nat} (hq : q < L.length) (hd : d < 4) : Inv g s0 (addE g L q d) ∧ L.length ≤ (addE g L q d).length := by
  unfold addE
  split
  · rename_i hc
    have hq0 := h.fb q hq
    have hgq := h.gd _ (gmem (z := e0) L hq)
    refine ⟨⟨?_, ?_, ?_, by simp, ?_, ?_⟩, by simp⟩
    · rw [List.map_append, List.nodup_append]
      refine ⟨h.nd, by simp, fun a ha b hb e => ?_⟩
      simp only [List.map_cons, List.map_nil, List.mem_singleton] at hb
      subst hb
      exact hc.2 (e ▸ ha)
    · intro e he
      rcases List.mem_append.1 he with he | he
      · exact h.gd e he
      · rw [List.mem_singleton] at he
        subst he
        exact ⟨hc.1, dieOk_rol _ _ hgq.2⟩
    · rw [gdl L _ h.ne]; exact h.r0
    · intro j hj hl
      rw [List.length_append, List.length_singleton] at hl
      by_cases hjl : j < L.length
      · obtain ⟨i, d', h1, h2, h3, h4, h5, h6⟩ := h.fr j hj hjl
        have hil : i < L.length := by omega
        exact ⟨i, d', by rw [gdl L _ hjl]; exact h1, h2, by rw [gdl L _ hjl, gdl L _ hil]; exact h3, h4, by rw [gdl L _ hjl]; exact h5, by rw [gdl L _ hjl, gdl L _ hil]; exact h6⟩
      · obtain rfl : j = L.length := by omega
        exact ⟨q, d, by rw [gdr], hq, by rw [gdr, gdl L _ hq], hd, by rw [gdr], by rw [gdr, gdl L _ hq]⟩
    · intro j hl
      rw [List.length_append, List.length_singleton] at hl
      by_cases hjl : j < L.length
      · rw [gdl L _ hjl]; exact h.fb j hjl
      · obtain rfl : j = L.length := by omega
        rw [gdr]
        show 0 ≤ (L.getD q e0).f + 1 ∧ (L.getD q e0).f + 1 ≤ _
        omega
  · exact ⟨h, Nat.le_refl _⟩
theorem Inv.adds {g : List (List Int)} {s0 : tState.in} {q : Nat} : ∀ (m d : Nat) (L : List En), Inv g s0 L → q < L.length → d + m = 4 → Inv g s0 (adds g q m d L) ∧ L.length ≤ (adds g q m d L).length
  | 0, _, L, h, _, _ => ⟨h, Nat.le_refl _⟩
  | m + 1, d, L, h, hq, hm => by
    obtain ⟨h1, h2⟩ := h.add hq (d := d) (by omega)
    obtain ⟨h3, h4⟩ := Inv.adds (q := q) m (d + 1) (addE g L q d) h1 (by omega) (by omega)
    exact ⟨h3, Nat.le_trans h2 h4⟩

/-! ### Numbers of states -/
def posN (w : Nat) (x y : Int) : Int := y * (w : Int) + x
def codeN (p a b c d e f : Int) : Int := 10 * (10 * (10 * (10 * (10 * (10 * p + a) + b) + c) + d) + e) + f
def codeP (w : Nat) (s : tState.in) : Int := codeN (posN w s.1 s.2.1) s.2.2.1.1 s.2.2.1.2.1 s.2.2.1.2.2.1 s.2.2.1.2.2.2.1 s.2.2.1.2.2.2.2.1 s.2.2.1.2.2.2.2.2.1
theorem flo_in {g : List (List Int)} {w h : Nat} (r : Rc g w h) {s : tState.in} (hf : flo g s = true) : rngI s.2.1 h ∧ rngI s.1 w := by
  have h1 := of_decide_eq_true hf
  unfold cell at h1
  rw [r.row0, r.len] at h1
  split at h1
  · assumption
  · cases h1
theorem pos_bd {w h : Nat} (w7 : w ≤ 7) (_h7 : h ≤ 7) {x y : Int} (hy : rngI y h) (hx : rngI x w) : (0 ≤ y * (w : Int) ∧ y * (w : Int) ≤ 48) ∧ 0 ≤ posN w x y ∧ posN w x y ≤ 48 := by
  obtain ⟨a1, a2⟩ := hy
  obtain ⟨b1, b2⟩ := hx
  obtain ⟨y, rfl⟩ := Int.eq_ofNat_of_zero_le a1
  have : (y + 1) * w ≤ 7 * 7 := Nat.mul_le_mul (by omega) w7
  rw [Nat.add_mul] at this
  unfold posN
  rw [mulI]
  omega
theorem pos_inj {w : Nat} {x y x' y' : Int} (hx : rngI x w) (hx' : rngI x' w) (he : posN w x y = posN w x' y') : x = x' ∧ y = y' := by
  obtain ⟨b1, b2⟩ := hx
  obtain ⟨c1, c2⟩ := hx'
  unfold posN at he
  have ey : y = y' := by
    rcases Int.lt_trichotomy y y' with q | q | q
    · have := Int.mul_le_mul_of_nonneg_right (show y + 1 ≤ y' by omega) (show (0 : Int) ≤ (w : Int) by omega)
      rw [Int.add_mul] at this
      omega
    · exact q
    · have := Int.mul_le_mul_of_nonneg_right (show y' + 1 ≤ y by omega) (show (0 : Int) ≤ (w : Int) by omega)
      rw [Int.add_mul] at this
      omega
  subst ey
  exact ⟨by omega, rfl⟩
theorem codeN_bd {p a b c d e f : Int} (_hp : 0 ≤ p ∧ p ≤ 48) (_h1 : dgt a) (_h2 : dgt b) (_h3 : dgt c) (_h4 : dgt d) (_h5 : dgt e) (_h6 : dgt f) : 0 ≤ codeN p a b c d e f ∧ codeN p a b c d e f < 49000000 := by
  unfold dgt at *
  unfold codeN
  omega
theorem codeN_inj {p a b c d e f p' a' b' c' d' e' f' : Int} (_h1 : dgt a) (_h2 : dgt b) (_h3 : dgt c) (_h4 : dgt d) (_h5 : dgt e) (_h6 : dgt f) (_k1 : dgt a') (_k2 : dgt b') (_k3 : dgt c') (_k4 : dgt d') (_k5 : dgt e') (_k6 : dgt f')
    (he : codeN p a b c d e f = codeN p' a' b' c' d' e' f') : p = p' ∧ a = a' ∧ b = b' ∧ c = c' ∧ d = d' ∧ e = e' ∧ f = f' := by
  unfold dgt at *
  unfold codeN at he
  have e6 : f = f' := by omega
  have e5 : e = e' := by omega
  have e4 : d = d' := by omega
  have e3 : c = c' := by omega
  have e2 : b = b' := by omega
  have e1 : a = a' := by omega
  exact ⟨by omega, e1, e2, e3, e4, e5, e6⟩
theorem code_bd {g : List (List Int)} {w h : Nat} (r : Rc g w h) {s : tState.in} (hf : flo g s = true) (hd : dieOk s.2.2.1 = true) : 0 ≤ codeP w s ∧ codeP w s < 49000000 := by
  obtain ⟨a1, a2⟩ := flo_in r hf
  obtain ⟨h1, h2, h3, h4, h5, h6⟩ := (dieOk_iff _).1 hd
  exact codeN_bd (pos_bd r.w7 r.h7 a1 a2).2 h1 h2 h3 h4 h5 h6
theorem code_inj {g : List (List Int)} {w h : Nat} (r : Rc g w h) {s t : tState.in} (hf : flo g s = true) (hd : dieOk s.2.2.1 = true) (hf' : flo g t = true) (hd' : dieOk t.2.2.1 = true) (he : codeP w s = codeP w t) : s = t := by
  obtain ⟨_, a2⟩ := flo_in r hf
  obtain ⟨_, a2'⟩ := flo_in r hf'
  obtain ⟨h1, h2, h3, h4, h5, h6⟩ := (dieOk_iff _).1 hd
  obtain ⟨h1', h2', h3', h4', h5', h6'⟩ := (dieOk_iff _).1 hd'
  obtain ⟨ep, e1, e2, e3, e4, e5, e6⟩ := codeN_inj h1 h2 h3 h4 h5 h6 h1' h2' h3' h4' h5' h6' he
  obtain ⟨ex, ey⟩ := pos_inj a2 a2' ep
  obtain ⟨sx, sy, ⟨s1, s2, s3, s4, s5, s6, su⟩, su2⟩ := s
  obtain ⟨tx, ty, ⟨t1, t2, t3, t4, t5, t6, tu⟩, tu2⟩ := t
  simp only at ex ey e1 e2 e3 e4 e5 e6
  subst ex ey e1 e2 e3 e4 e5 e6
  rfl
theorem code_step (k n : Nat) (out : Int) (l : List Int) (j : Nat) (f : Int) (_hl : l.length = 6) (_hj : j < 6) (hf : l.getD j 0 = f) (_h0 : 0 ≤ out ∧ out ≤ 100000000) (_h1 : 0 ≤ f ∧ f ≤ 9) :
    sp_wyCode_l3 k (n + 1) out l 6 (j : Int) = sp_wyCode_l3 k n (10 * out + f) l 6 ((j + 1 : Nat) : Int) := by
  show sp_wyCode_l3s k _ _ _ _ _ = _
  unfold sp_wyCode_l3s
  have e1 : l.getD (j : Int).toNat 0 = f := hf
  rw [if_pos (dt (by omega)), inb_eq (by omega), e1, wr (x := 10 * out) (by omega), wr (by omega), wr (by omega)]
  rfl
theorem code_is (k : Nat) (_hk : 2097152 ≤ k) {g : List (List Int)} {w h : Nat} (r : Rc g w h) {s : tState.in} (hf : flo g s = true) (hd : dieOk s.2.2.1 = true) : sp_wyCode k (gr g w h) s = some (codeP w s) := by
  obtain ⟨a1, a2⟩ := flo_in r hf
  obtain ⟨h1, h2, h3, h4, h5, h6⟩ := (dieOk_iff _).1 hd
  obtain ⟨⟨p1, p2⟩, p3, p4⟩ := pos_bd r.w7 r.h7 a1 a2
  obtain ⟨n, rfl⟩ : ∃ n, k = n + 7 := ⟨k - 7, by omega⟩
  have gen : ∀ (x y a b c d e f : Int), 0 ≤ y * (w : Int) ∧ y * (w : Int) ≤ 48 → 0 ≤ posN w x y ∧ posN w x y ≤ 48 → dgt a → dgt b → dgt c → dgt d → dgt e → dgt f →
      sp_wyCode_l3 (n + 7) (n + 7) (IntKind.i64.wrap (IntKind.i64.wrap (y * (w : Int)) + x)) [a, b, c, d, e, f] 6 ((0 : Nat) : Int) = some (codeN (posN w x y) a b c d e f) := by
    intro x y a b c d e f q1 q2 h1 h2 h3 h4 h5 h6
    unfold dgt at *
    have q3 : y * (w : Int) + x = posN w x y := rfl
    rw [wr (x := y * (w : Int)) (by omega), q3, wr (by omega)]
    rw [code_step _ (n + 6) _ _ 0 a rfl (by omega) rfl (by omega) h1]
    rw [code_step _ (n + 5) _ _ 1 b rfl (by omega) rfl (by omega) h2]
    rw [code_step _ (n + 4) _ _ 2 c rfl (by omega) rfl (by omega) h3]
    rw [code_step _ (n + 3) _ _ 3 d rfl (by omega) rfl (by omega) h4]
    rw [code_step _ (n + 2) _ _ 4 e rfl (by omega) rfl (by omega) h5]
    rw [code_step _ (n + 1) _ _ 5 f rfl (by omega) rfl (by omega) h6]
    show sp_wyCode_l3s (n + 7) _ _ _ _ _ = _
    unfold sp_wyCode_l3s
    rw [if_neg (ndt (by decide))]
    rfl
  exact gen s.1 s.2.1 _ _ _ _ _ _ ⟨p1, p2⟩ ⟨p3, p4⟩ h1 h2 h3 h4 h5 h6
theorem nodup_bd : ∀ (N : Nat) (l : List Int), l.Nodup → (∀ x ∈ l, 0 ≤ x ∧ x < (N : Int)) → l.length ≤ N
  | 0, l, _, h => by
    cases l with
    | nil => simp
    | cons x l => have := h x List.mem_cons_self; omega
  | N + 1, l, hn, h => by
    have h1 : (l.filter fun x => decide (x ≠ (N : Int))).length ≤ N := by
      refine nodup_bd N _ (hn.filter _) fun x hx => ?_
      rw [List.mem_filter] at hx
      have h1 := h x hx.1
      have h2 := of_decide_eq_true hx.2
      omega
    have h2 : l.length ≤ (l.filter fun x => decide (x ≠ (N : Int))).length + 1 := by
      clear h h1
      induction l with
      | nil => simp
      | cons x l ih =>
        have hn' := List.nodup_cons.1 hn
        by_cases hx : x = (N : Int)
        · subst hx
          have e : (l.filter fun x => decide (x ≠ (N : Int))) = l := List.filter_eq_self.2 fun y hy => decide_eq_true (fun q => hn'.1 (q ▸ hy))
          rw [List.filter_cons_of_neg (by simp), e]; simp
        · rw [List.filter_cons_of_pos (by simp [hx])]
          have := ih hn'.2
          simp only [List.length_cons]; omega
    omega
theorem Inv.codes {g : List (List Int)} {s0 : tState.in} {L : List En} (h : Inv g s0 L) {w hh : Nat} (r : Rc g w hh) : (L.map fun e => codeP w e.s).Nodup := by
  have hnd := h.nd
  have hgd := h.gd
  clear h
  induction L with
  | nil => simp
  | cons e L ih =>
    rw [List.map_cons, List.nodup_cons] at hnd ⊢
    refine ⟨fun q => ?_, ih hnd.2 (fun e he => hgd e (List.mem_cons_of_mem _ he))⟩
    obtain ⟨e', he', hc⟩ := List.mem_map.1 q
    have h1 := hgd e List.mem_cons_self
    have h2 := hgd e' (List.mem_cons_of_mem _ he')
    have := code_inj r h2.1 h2.2 h1.1 h1.2 hc
    exact hnd.1 (List.mem_map.2 ⟨e', he', this⟩)
theorem Inv.bd {g : List (List Int)} {s0 : tState.in} {L : List En} (h : Inv g s0 L) {w hh : Nat} (r : Rc g w hh) : L.length ≤ 49000000 := by
  have := nodup_bd 49000000 _ (h.codes r) (fun x hx => by
    obtain ⟨e, he, rfl⟩ := List.mem_map.1 hx
    have h1 := h.gd e he
    have := code_bd r h1.1 h1.2
    omega)
  simpa using this
theorem place_loop (k : Nat) (c : Int) (l : List Int) (hl : l.length ≤ 1000000000) : ∀ (d n j : Nat), l.length = j + d → d < n →
    sp_wyPlace_l2 k n c l (l.length : Int) (j : Int) = some (if fidx (fun x => decide (x = c)) (l.drop j) = -1 then -1 else (j : Int) + fidx (fun x => decide (x = c)) (l.drop j))
  | 0, n + 1, j, h, _ => by
    show sp_wyPlace_l2s k _ _ _ _ _ = _
    unfold sp_wyPlace_l2s
    rw [if_neg (ndt (by omega)), List.drop_of_length_le (by omega)]; rfl
  | d + 1, n + 1, j, h, hn => by
    show sp_wyPlace_l2s k _ _ _ _ _ = _
    unfold sp_wyPlace_l2s
    have hd := getD_drop l j 0 (by omega)
    have e1 : rdT I l (j : Int) = l.getD j 0 := rfl
    have ih := place_loop k c l hl d n (j + 1) (by omega) (by omega)
    have hg := fidx_ge (fun x => decide (x = c)) (l.drop (j + 1))
    rw [if_pos (dt (by omega)), inb_eq (by omega), e1, hd]
    unfold fidx
    by_cases hp : l.getD j 0 = c
    · rw [if_pos (dt hp), if_pos (dt hp), if_neg (by omega)]; simp
    · rw [if_neg (ndt hp), if_neg (ndt hp), wr (by omega)]
      refine (show _ = _ from ih).trans ?_
      by_cases h2 : fidx (fun x => decide (x = c)) (l.drop (j + 1)) = -1
      · rw [if_pos h2, if_pos h2, if_pos rfl]
      · rw [if_neg h2, if_neg h2, if_neg (by omega)]; congr 1; omega
theorem place_is (k : Nat) (_hk : 1000000000 ≤ k) (l : List Int) (c : Int) (_hl : l.length ≤ 100000000) : sp_wyPlace k l c = some (fidx (fun x => decide (x = c)) l) := by
  refine (place_loop k c l (by omega) l.length k 0 (by omega) (by omega)).trans ?_
  rw [List.drop_zero]
  by_cases h : fidx (fun x => decide (x = c)) l = -1
  · rw [if_pos h, h]
  · rw [if_neg h]; simp

/-! ### The program's search -/
def pl : Nat → List En → List (tState.in × Int)
  | _, [] => []
  | i, e :: L => (e.s, (i : Int)) :: pl (i + 1) L
theorem lk_cons (p : tState.in × Int) (l : List (tState.in × Int)) (t : tState.in) : lk tState I (p :: l) t = if tState.eqv t p.1 = true then some p.2 else lk tState I l t := by
  unfold lk
  rw [List.find?_cons]
  cases tState.eqv t p.1 <;> rfl
theorem lk_pl (t : tState.in) : ∀ (L : List En) (i : Nat), (lk tState I (pl i L) t).isSome = true ↔ t ∈ L.map En.s
  | [], _ => by simp [lk, pl]
  | e :: L, i => by
    have ih := lk_pl t L (i + 1)
    show (lk tState I ((e.s, (i : Int)) :: pl (i + 1) L) t).isSome = true ↔ _
    rw [lk_cons, List.map_cons, List.mem_cons]
    by_cases h : t = e.s
    · rw [if_pos ((stEq _ _).2 h)]; simp [h]
    · rw [if_neg (fun q => h ((stEq _ _).1 q)), ih]
      simp [h]
theorem up_pl (t : tState.in) (n : Int) : ∀ (L : List En) (i : Nat), t ∉ L.map En.s → up tState I (pl i L) t n = pl i L ++ [(t, n)]
  | [], _, _ => rfl
  | e :: L, i, h => by
    rw [List.map_cons, List.mem_cons] at h
    have ih := up_pl t n L (i + 1) (fun q => h (.inr q))
    show (if tState.eqv t e.s = true then _ else _) = _
    rw [if_neg (fun q => h (.inl ((stEq _ _).1 q)))]
    show _ :: up tState I (pl (i + 1) L) t n = _
    rw [ih]; rfl
theorem pl_app (e : En) : ∀ (L : List En) (i : Nat), pl i (L ++ [e]) = pl i L ++ [(e.s, ((i + L.length : Nat) : Int))]
  | [], _ => rfl
  | x :: L, i => by
    have ih := pl_app e L (i + 1)
    show _ :: pl (i + 1) (L ++ [e]) = _
    rw [ih]
    have : i + 1 + L.length = i + (x :: L).length := by simp; omega
    rw [this]; rfl
def chE (e : En) : Int := if e.b < 0 then 0 else chrD e.d
def enc (L : List En) : treach.in := (L.map En.s, L.map En.b, L.map chE, L.map En.f, pl 0 L, ())
theorem re_in (k : Nat) {g : List (List Int)} {w h : Nat} (r : Rc g w h) {s0 : tState.in} (mv : tState.in × (Int × Unit) → Option (tState.in × (Bool × Unit))) (hmv : ∀ s c, mv (s, c, ()) = some (rol s c, flo g (rol s c), ())) (g3 : (tState.in × (Int × Unit) → Option (tState.in × (Bool × Unit))) → ((List tState.in) × ((List Int) × ((List Int) × ((List Int) × ((List (tState.in × Int)) × Unit))))) → Int → Option (Option treach.in)) (q : Nat) : ∀ (m n d : Nat) (L : List En), d + m = 4 → m < n → Inv g s0 L → q < L.length →
    im_reached_l6 k g3 n mv (enc L) (q : Int) (d : Int) = g3 mv (enc (adds g q m d L)) ((q + 1 : Nat) : Int)
  | 0, n + 1, d, L, hd, _, hI, hq => by
    have := hI.bd r
    show im_reached_l6s k _ _ _ _ _ _ = _
    unfold im_reached_l6s
    rw [if_neg (ndt (by omega)), wr (by omega)]
    rfl
  | m + 1, n + 1, d, L, hd, hn, hI, hq => by
    have hb := hI.bd r
    have hfb := hI.fb q hq
    obtain ⟨hI2, hl2⟩ := hI.add hq (d := d) (by omega)
    have ih := re_in k r mv hmv g3 q m n (d + 1) (addE g L q d) (by omega) (by omega) hI2 (by omega)
    show im_reached_l6s k _ _ _ _ _ _ = _
    unfold im_reached_l6s
    have ec : ([110, 101, 115, 119] : List Int).getD (d : Int).toNat 0 = chrD (d : Int) := rfl
    have es : (enc L).1.getD (q : Int).toNat ((0 : Int), (0 : Int), ((0 : Int), (0 : Int), (0 : Int), (0 : Int), (0 : Int), (0 : Int), ()), ()) = (L.getD q e0).s := gmap (z := e0) En.s L _ hq
    have ef : (enc L).2.2.2.1.getD (q : Int).toNat (0 : Int) = (L.getD q e0).f := gmap (z := e0) En.f L _ hq
    have l1 : (enc L).1.length = L.length := List.length_map ..
    have l2 : (enc L).2.1.length = L.length := List.length_map ..
    have l3 : (enc L).2.2.1.length = L.length := List.length_map ..
    have l4 : (enc L).2.2.2.1.length = L.length := List.length_map ..
    have ln : (([110, 101, 115, 119] : List Int).length : Int) = 4 := rfl
    rw [if_pos (dt (by omega)), inb_eq (by rw [l1]; omega), inb_eq (by rw [ln]; omega), ec, es, hmv, Option.bind_some, wr (x := (d : Int) + 1) (by omega)]
    show _ = g3 mv (enc (adds g q m (d + 1) (addE g L q d))) _
    rw [← ih]
    show (if (!flo g (rol (L.getD q e0).s (chrD (d : Int)))) = true then _ else _) = _
    by_cases hf : flo g (rol (L.getD q e0).s (chrD (d : Int))) = true
    · rw [if_neg (by rw [hf]; decide)]
      show (if (lk tState I (pl 0 L) (rol (L.getD q e0).s (chrD (d : Int)))).isSome = true then _ else _) = _
      by_cases hm : rol (L.getD q e0).s (chrD (d : Int)) ∈ L.map En.s
      · rw [if_pos ((lk_pl _ L 0).2 hm)]
        have : addE g L q d = L := by unfold addE; rw [if_neg (fun z => z.2 hm)]
        rw [this]
        rfl
      · rw [if_neg (fun z => hm ((lk_pl _ L 0).1 z)), inb_eq (by rw [ln]; omega), inb_eq (by rw [l4]; omega), if_pos (by rw [l1]; simp; omega), if_pos (by rw [l2]; simp; omega), if_pos (by rw [l3]; simp; omega), if_pos (by rw [l4]; simp; omega), ef, wr (by omega)]
        have he : addE g L q d = L ++ [⟨rol (L.getD q e0).s (chrD (d : Int)), (q : Int), (d : Int), (L.getD q e0).f + 1⟩] := by unfold addE; rw [if_pos ⟨hf, hm⟩]
        rw [he]
        have eu : up tState I (enc L).2.2.2.2.1 (rol (L.getD q e0).s (chrD (d : Int))) ((enc L).1.length : Int) = pl 0 (L ++ [⟨rol (L.getD q e0).s (chrD (d : Int)), (q : Int), (d : Int), (L.getD q e0).f + 1⟩]) := by
          rw [pl_app, l1, Nat.zero_add]
          exact up_pl _ _ L 0 hm
        rw [eu]
        have ecn : chE ⟨rol (L.getD q e0).s (chrD (d : Int)), (q : Int), (d : Int), (L.getD q e0).f + 1⟩ = chrD (d : Int) := if_neg (show ¬ ((q : Int) < 0) by omega)
        unfold enc
        simp only [List.map_append, List.map_cons, List.map_nil, ecn]
        rfl
    · rw [if_pos (by simpa using hf)]
      have : addE g L q d = L := by unfold addE; rw [if_neg (fun z => hf z.1)]
      rw [this]
      rfl

/-! ### The reference's search -/
def zN : twyNode.in := (((0 : Int), (0 : Int), ((0 : Int), (0 : Int), (0 : Int), (0 : Int), (0 : Int), (0 : Int), ()), ()), (0 : Int), (0 : Int), (0 : Int), (0 : Int), (List.replicate 4 (0 : Int)), ())
def setNx (x : twyNode.in) (i v : Int) : twyNode.in := (x.1, x.2.1, x.2.2.1, x.2.2.2.1, x.2.2.2.2.1, x.2.2.2.2.2.1.set i.toNat v, x.2.2.2.2.2.2)
def addW (a b : twyNode.in) : twyNode.in := (a.1, a.2.1, IntKind.i64.wrap (a.2.2.1 + b.2.2.1), a.2.2.2)
abbrev G4 := tboGrid.in → (List twyNode.in) → (List Int) → Int → Option (List twyNode.in)
abbrev G7 := tboGrid.in → (List twyNode.in) → (List Int) → Int → Int → Option (List twyNode.in)
theorem j19_eq (k : Nat) (g4 : G4) (g7 : G7) (x2 : tboGrid.in) (x5 : List twyNode.in) (x6 : List Int) (x7 x8 x11 : Int) :
    sp_wyAll_j19s k g4 g7 x2 x5 x6 x7 x8 x11 = inb x7 x5.length (inb x8 4 (g7 x2 (x5.set x7.toNat (setNx (x5.getD x7.toNat zN) x8 x11)) x6 x7 (IntKind.i64.wrap (x8 + 1)))) := rfl
theorem j17_eq (k : Nat) (c19 : G4 → G7 → tboGrid.in → (List twyNode.in) → (List Int) → Int → Int → Int → Option (List twyNode.in)) (g4 : G4) (g7 : G7) (x2 : tboGrid.in) (x5 : List twyNode.in) (x6 : List Int) (x7 x8 x11 : Int) :
    sp_wyAll_j17s k c19 g4 g7 x2 x5 x6 x7 x8 x11 = inb x11 x5.length (inb x7 x5.length (if decide ((x5.getD x11.toNat zN).2.1 = IntKind.i64.wrap ((x5.getD x7.toNat zN).2.1 + 1)) = true then
      inb x11 x5.length (inb x7 x5.length (inb x11 x5.length (c19 g4 g7 x2 (x5.set x11.toNat (addW (x5.getD x11.toNat zN) (x5.getD x7.toNat zN))) x6 x7 x8 x11))) else c19 g4 g7 x2 x5 x6 x7 x8 x11)) := rfl
theorem l7_eq (k : Nat) (c17 : G4 → G7 → tboGrid.in → (List twyNode.in) → (List Int) → Int → Int → Int → Option (List twyNode.in)) (g4 : G4) (g7 : G7) (x2 : tboGrid.in) (x5 y5 : List twyNode.in) (x6 : List Int) (x7 x8 : Int) (hy : x5.set x7.toNat (setNx (x5.getD x7.toNat zN) x8 (-1)) = y5) :
    sp_wyAll_l7s k c17 g4 g7 x2 x5 x6 x7 x8 = if decide (x8 < 4) = true then inb x7 x5.length (inb x8 4 (inb x7 y5.length ((sp_boRoll k x2 (y5.getD x7.toNat zN).1 x8).bind fun r2 =>
      if (!r2.2.1) = true then g7 x2 y5 x6 x7 (IntKind.i64.wrap (x8 + 1)) else (sp_wyCode k x2 r2.1).bind fun r3 => (sp_wyPlace k x6 r3).bind fun r4 =>
        if decide (r4 < 0) = true then inb x7 y5.length (if y5.length + ([(r2.1, IntKind.i64.wrap ((y5.getD x7.toNat zN).2.1 + 1), (0 : Int), x7, x8, List.replicate 4 (0 : Int), ())] : List twyNode.in).length ≤ 17179869184 then ((sp_wyCode k x2 r2.1).bind fun r5 =>
          if x6.length + ([r5] : List Int).length ≤ 17179869184 then (c17 g4 g7 x2 (y5 ++ [(r2.1, IntKind.i64.wrap ((y5.getD x7.toNat zN).2.1 + 1), (0 : Int), x7, x8, List.replicate 4 (0 : Int), ())]) (x6 ++ [r5]) x7 x8 (y5.length : Int)) else none) else none)
        else c17 g4 g7 x2 y5 x6 x7 x8 r4))) else g4 x2 x5 x6 (IntKind.i64.wrap (x7 + 1)) := by
  subst hy; rfl
def pj (x : twyNode.in) : tState.in × Int × Int × Int := (x.1, x.2.1, x.2.2.2.1, x.2.2.2.2.1)
def pe (e : En) : tState.in × Int × Int × Int := (e.s, e.f, e.b, e.d)
structure Rel (w : Nat) (L : List En) (all : List twyNode.in) (codes : List Int) : Prop where
  a : all.map pj = L.map pe
  c : codes = L.map fun e => codeP w e.s
theorem Rel.len {w : Nat} {L : List En} {all : List twyNode.in} {codes : List Int} (h : Rel w L all codes) : all.length = L.length ∧ codes.length = L.length := by
  have := congrArg List.length h.a
  rw [List.length_map, List.length_map] at this
  exact ⟨this, by rw [h.c, List.length_map]⟩
theorem Rel.at {w : Nat} {L : List En} {all : List twyNode.in} {codes : List Int} (h : Rel w L all codes) {j : Nat} (hj : j < L.length) : pj (all.getD j zN) = pe (L.getD j e0) := by
  rw [← gmap (z := e0) pe L (pj zN) hj, ← h.a, gmap (z := zN) pj all (pj zN) (by rw [h.len.1]; exact hj)]
theorem map_set {α β : Type} {z : α} (f : α → β) (a : α) : ∀ (l : List α) (i : Nat), (i < l.length → f a = f (l.getD i z)) → (l.set i a).map f = l.map f
  | [], _, _ => rfl
  | x :: l, 0, h => by
    have : f a = f x := h (by simp)
    simp [this]
  | x :: l, i + 1, h => by
    have := map_set (z := z) f a l i (fun hi => h (by simpa using hi))
    simp [this]
theorem Rel.set {w : Nat} {L : List En} {all : List twyNode.in} {codes : List Int} (h : Rel w L all codes) (i : Nat) (a : twyNode.in) (ha : pj a = pj (all.getD i zN)) : Rel w L (all.set i a) codes :=
  ⟨(map_set (z := zN) pj a all i (fun _ => ha)).trans h.a, h.c⟩
theorem j17_is (k : Nat) (_hk : 0 < k) {w : Nat} {L : List En} {all : List twyNode.in} {codes : List Int} (h : Rel w L all codes) (g4 : G4) (g7 : G7) (x2 : tboGrid.in) {q d : Nat} {x : Int} (_hq : q < L.length) (_hd : d < 4) (_hx : 0 ≤ x ∧ x < (L.length : Int)) :
    ∃ all', Rel w L all' codes ∧ sp_wyAll_j17 k g4 g7 k x2 all codes (q : Int) (d : Int) x = g7 x2 all' codes (q : Int) ((d + 1 : Nat) : Int) := by
  obtain ⟨k, rfl⟩ : ∃ j, k = j + 1 := ⟨k - 1, by omega⟩
  have hl := h.len.1
  have h19 : ∀ A : List twyNode.in, Rel w L A codes → ∃ all', Rel w L all' codes ∧ sp_wyAll_j19 (k + 1) g4 g7 (k + 1) x2 A codes (q : Int) (d : Int) x = g7 x2 all' codes (q : Int) ((d + 1 : Nat) : Int) := by
    intro A hA
    refine ⟨_, hA.set q (setNx (A.getD q zN) (d : Int) x) rfl, ?_⟩
    show sp_wyAll_j19s (k + 1) g4 g7 _ _ _ _ _ _ = _
    rw [j19_eq, inb_eq (by have := hA.len.1; omega), inb_eq (by omega), wr (by omega)]
    rfl
  show ∃ all', Rel w L all' codes ∧ sp_wyAll_j17s (k + 1) (fun g0 g1 => sp_wyAll_j19 (k + 1) g0 g1 (k + 1)) g4 g7 x2 all codes (q : Int) (d : Int) x = g7 x2 all' codes (q : Int) ((d + 1 : Nat) : Int)
  rw [j17_eq, inb_eq (by omega), inb_eq (by omega)]
  split
  · rw [inb_eq (by omega), inb_eq (by omega), inb_eq (by omega)]
    exact h19 _ (h.set _ _ rfl)
  · exact h19 _ h
theorem wy_in (k : Nat) (hk : 1000000000 ≤ k) {g : List (List Int)} {w h : Nat} (r : Rc g w h) {s0 : tState.in} (g4 : G4) (q : Nat) : ∀ (m n d : Nat) (L : List En) (all : List twyNode.in) (codes : List Int), d + m = 4 → m < n → Inv g s0 L → q < L.length → Rel w L all codes →
    ∃ all' codes', Rel w (adds g q m d L) all' codes' ∧ sp_wyAll_l7 k g4 n (gr g w h) all codes (q : Int) (d : Int) = g4 (gr g w h) all' codes' ((q + 1 : Nat) : Int)
  | 0, n + 1, d, L, all, codes, hd, _, hI, hq, hR => by
    have := hI.bd r
    refine ⟨all, codes, hR, ?_⟩
    show sp_wyAll_l7s k _ _ _ _ _ _ _ _ = _
    rw [l7_eq k _ _ _ _ _ _ _ _ _ rfl, if_neg (ndt (by omega)), wr (by omega)]
    rfl
  | m + 1, n + 1, d, L, all, codes, hd, hn, hI, hq, hR => by
    have hb := hI.bd r
    have hfb := hI.fb q hq
    have hgq := hI.gd _ (gmem (z := e0) L hq)
    have hdir := chrD_dir (d := d) (by omega)
    obtain ⟨hI2, hl2⟩ := hI.add hq (d := d) (by omega)
    have hl := hR.len
    have hR5 : Rel w L (all.set q (setNx (all.getD q zN) (d : Int) (-1))) codes := hR.set q _ rfl
    generalize hy : all.set q (setNx (all.getD q zN) (d : Int) (-1)) = y5 at hR5
    have hl5 := hR5.len.1
    have hat := hR5.at hq
    have es : (y5.getD q zN).1 = (L.getD q e0).s := congrArg Prod.fst hat
    have ef : (y5.getD q zN).2.1 = (L.getD q e0).f := congrArg (fun z => z.2.1) hat
    have eq : (q : Int).toNat = q := by omega
    have ih := fun A C hR => wy_in k hk r g4 q m n (d + 1) (addE g L q d) A C (by omega) (by omega) hI2 (by omega) hR
    show ∃ all' codes', Rel w (adds g q m (d + 1) (addE g L q d)) all' codes' ∧ sp_wyAll_l7s k (fun g0 g1 => sp_wyAll_j17 k g0 g1 k) g4 (sp_wyAll_l7 k g4 n) (gr g w h) all codes (q : Int) (d : Int) = g4 (gr g w h) all' codes' ((q + 1 : Nat) : Int)
    rw [l7_eq k _ _ _ _ _ y5 _ _ _ hy, if_pos (dt (by omega)), inb_eq (by omega), inb_eq (by omega), inb_eq (by omega), eq, es]
    have hro := boRoll_is k r (L.getD q e0).s (chrD (d : Int)) hdir.1
    rw [hdir.2] at hro
    rw [hro, Option.bind_some]
    by_cases hf : flo g (rol (L.getD q e0).s (chrD (d : Int))) = true
    · rw [if_pos hf, if_neg (show ¬ ((!true) = true) by decide)]
      have hdk : dieOk (rol (L.getD q e0).s (chrD (d : Int))).2.2.1 = true := dieOk_rol _ _ hgq.2
      simp only
      rw [code_is k (by omega) r hf hdk, Option.bind_some, place_is k hk codes _ (by omega), Option.bind_some]
      by_cases hm : rol (L.getD q e0).s (chrD (d : Int)) ∈ L.map En.s
      · have hadd : addE g L q d = L := by unfold addE; rw [if_neg (fun z => z.2 hm)]
        have hge := fidx_ge (fun x => decide (x = codeP w (rol (L.getD q e0).s (chrD (d : Int))))) codes
        have hlt := fidx_lt (fun x => decide (x = codeP w (rol (L.getD q e0).s (chrD (d : Int))))) codes
        have hne : fidx (fun x => decide (x = codeP w (rol (L.getD q e0).s (chrD (d : Int))))) codes ≠ -1 := by
          intro z
          obtain ⟨e, he, hes⟩ := List.mem_map.1 hm
          have := (fidx_all _ _).1 z (codeP w e.s) (by rw [hR.c]; exact List.mem_map.2 ⟨e, he, rfl⟩)
          rw [hes] at this
          simp at this
        rw [if_neg (ndt (by omega))]
        obtain ⟨A, hA, eA⟩ := j17_is k (by omega) hR5 g4 (sp_wyAll_l7 k g4 n) (gr g w h) hq (show d < 4 by omega) (x := fidx (fun x => decide (x = codeP w (rol (L.getD q e0).s (chrD (d : Int))))) codes) (by omega)
        rw [hadd] at ih ⊢
        obtain ⟨A', C', hR', e'⟩ := ih A codes hA
        exact ⟨A', C', hR', (show _ = _ from eA).trans e'⟩
      · have hadd : addE g L q d = L ++ [⟨rol (L.getD q e0).s (chrD (d : Int)), (q : Int), (d : Int), (L.getD q e0).f + 1⟩] := by unfold addE; rw [if_pos ⟨hf, hm⟩]
        have hno : fidx (fun x => decide (x = codeP w (rol (L.getD q e0).s (chrD (d : Int))))) codes = -1 := by
          rw [fidx_all]
          intro x hx
          rw [hR.c] at hx
          obtain ⟨e, he, rfl⟩ := List.mem_map.1 hx
          refine decide_eq_false fun z => ?_
          have h1 := hI.gd e he
          exact hm (List.mem_map.2 ⟨e, he, code_inj r h1.1 h1.2 hf hdk z⟩)
        rw [hno, if_pos (by decide), inb_eq (by omega), if_pos (by simp; omega), Option.bind_some, if_pos (by simp; omega), ef, wr (by omega)]
        have hR6 : Rel w (L ++ [⟨rol (L.getD q e0).s (chrD (d : Int)), (q : Int), (d : Int), (L.getD q e0).f + 1⟩]) (y5 ++ [(rol (L.getD q e0).s (chrD (d : Int)), (L.getD q e0).f + 1, (0 : Int), (q : Int), (d : Int), List.replicate 4 (0 : Int), ())]) (codes ++ [codeP w (rol (L.getD q e0).s (chrD (d : Int)))]) :=
          ⟨by rw [List.map_append, List.map_append, hR5.a]; rfl, by rw [List.map_append, hR.c]; rfl⟩
        rw [hadd] at ih ⊢
        obtain ⟨A, hA, eA⟩ := j17_is k (by omega) hR6 g4 (sp_wyAll_l7 k g4 n) (gr g w h) (q := q) (d := d) (x := (y5.length : Int)) (by simp; omega) (by omega) (by simp; omega)
        obtain ⟨A', C', hR', e'⟩ := ih A _ hA
        exact ⟨A', C', hR', (show _ = _ from eA).trans e'⟩
    · rw [if_neg hf, if_pos (show ((!false) = true) by decide), wr (by omega)]
      have hadd : addE g L q d = L := by unfold addE; rw [if_neg (fun z => hf z.1)]
      rw [hadd] at ih ⊢
      obtain ⟨A', C', hR', e'⟩ := ih y5 codes hR5
      exact ⟨A', C', hR', e'⟩

/-! ### Both -/
theorem bfs (k : Nat) (hk : 1000000000 ≤ k) {g : List (List Int)} {w h : Nat} (r : Rc g w h) {s0 : tState.in} (mv : tState.in × (Int × Unit) → Option (tState.in × (Bool × Unit))) (hmv : ∀ s c, mv (s, c, ()) = some (rol s c, flo g (rol s c), ())) : ∀ (n q : Nat) (L : List En) (all : List twyNode.in) (codes : List Int), Inv g s0 L → q ≤ L.length → 49000000 < n + q → Rel w L all codes →
    ∃ L' all' codes', Inv g s0 L' ∧ Rel w L' all' codes' ∧ sp_wyAll_l4 k n (gr g w h) all codes (q : Int) = some all' ∧ im_reached_l3 k n mv (enc L) (q : Int) = some (some (enc L'))
  | 0, q, L, all, codes, hI, hq, hn, hR => by have := hI.bd r; omega
  | n + 1, q, L, all, codes, hI, hq, hn, hR => by
    have hl := hR.len
    have l1 : (enc L).1.length = L.length := List.length_map ..
    show ∃ L' all' codes', Inv g s0 L' ∧ Rel w L' all' codes' ∧ sp_wyAll_l4s k (fun g0 => sp_wyAll_l7 k g0 k) (sp_wyAll_l4 k n) (gr g w h) all codes (q : Int) = some all' ∧ im_reached_l3s k (fun g0 => im_reached_l6 k g0 k) (im_reached_l3 k n) mv (enc L) (q : Int) = some (some (enc L'))
    unfold sp_wyAll_l4s im_reached_l3s
    by_cases hlt : q < L.length
    · rw [if_pos (dt (by omega)), if_pos (dt (by rw [l1]; omega))]
      obtain ⟨A, C, hA, eA⟩ := wy_in k hk r (sp_wyAll_l4 k n) q 4 k 0 L all codes rfl (by omega) hI hlt hR
      have eB := re_in k r (s0 := s0) mv hmv (im_reached_l3 k n) q 4 k 0 L rfl (by omega) hI hlt
      obtain ⟨h1, h2⟩ := Inv.adds 4 0 L hI hlt rfl
      obtain ⟨L', A', C', b1, b2, b3, b4⟩ := bfs k hk r mv hmv n (q + 1) _ A C h1 (by omega) (by omega) hA
      exact ⟨L', A', C', b1, b2, (show _ = _ from eA).trans b3, (show _ = _ from eB).trans b4⟩
    · rw [if_neg (ndt (by omega)), if_neg (ndt (by rw [l1]; omega))]
      exact ⟨L, all, codes, hI, hR, rfl, rfl⟩
theorem reach_is (k : Nat) (hk : 1000000000 ≤ k) {g : List (List Int)} {w h : Nat} (r : Rc g w h) (s0 : tState.in) (hf : flo g s0 = true) (hd : dieOk s0.2.2.1 = true) (mv : tState.in × (Int × Unit) → Option (tState.in × (Bool × Unit))) (hmv : ∀ s c, mv (s, c, ()) = some (rol s c, flo g (rol s c), ())) :
    ∃ L all, Inv g s0 L ∧ all.map pj = L.map pe ∧ sp_wyAll k (gr g w h) s0 = some all ∧ im_reached k s0 mv = some (some (enc L)) := by
  have hI : Inv g s0 [⟨s0, -1, 0, 0⟩] := by
    refine ⟨by simp, fun e he => ?_, rfl, by simp, fun j hj hl => ?_, fun j hl => ?_⟩
    · rw [List.mem_singleton] at he; subst he; exact ⟨hf, hd⟩
    · rw [List.length_singleton] at hl; omega
    · rw [List.length_singleton] at hl
      obtain rfl : j = 0 := by omega
      exact ⟨Int.le_refl _, Int.le_refl _⟩
  obtain ⟨L, A, C, h1, h2, h3, h4⟩ := bfs k hk r (s0 := s0) mv hmv k 0 [⟨s0, -1, 0, 0⟩] [(s0, (0 : Int), (1 : Int), (-1 : Int), (0 : Int), (List.replicate 4 (0 : Int)), ())] [codeP w s0] hI (by simp) (by omega) ⟨rfl, rfl⟩
  refine ⟨L, A, h1, h2.a, ?_, h4⟩
  show (sp_wyCode k (gr g w h) s0).bind _ = _
  rw [code_is k (by omega) r hf hd]
  exact h3
end Ev
/- slices.Clone[loop.example/g01207/impl.grid,string] -/
namespace Ev
open Go Go.Proofs
/-! slices.Clone[impl.grid,string] -/
def slices_Clone_impl_grid_string_s (_k : Nat) (x0 : (List (List Int))) : Option (List (List Int)) :=
  nonE x0 (
    if ([] : List (List Int)).length + x0.length ≤ 17179869184 then (
      some (([] : List (List Int)) ++ x0)) else none)
def slices_Clone_impl_grid_string (k : Nat) (x0 : (List (List Int))) : Option (List (List Int)) := slices_Clone_impl_grid_string_s k x0
noncomputable def slices_Clone_impl_grid_string_O (k : Nat) : Orc := { ps := [.v (.sl T.s)], rt := (.o 9 T.s), F := fun x => slices_Clone_impl_grid_string k x.1 }
noncomputable def slices_Clone_impl_grid_string_E (k : Nat) : Env := { ty := tabTy Tryd_tab, ds := tabDs Tryd_tab, rounds := k, nt := 8, orc := fun _ => none, lp := fun _ => none, ct := fun _ => none, plan := fun _ => none }
noncomputable def slices_Clone_impl_grid_string_fin (k : Nat) : Kn (List (List Int)) := finish (slices_Clone_impl_grid_string_E k) [.v (.sl T.s)] (.o 9 T.s) Tryd.f103.results.toList
theorem slices_Clone_impl_grid_string_st (k : Nat) (x0 : (List (List Int))) : evFun (slices_Clone_impl_grid_string_E k) [.v (.sl T.s)] (.o 9 T.s) Tryd.f103 (x0, ()) = slices_Clone_impl_grid_string_s k x0 := by kernel_rfl
theorem slices_Clone_impl_grid_string_ev (k : Nat) (x0 : (List (List Int))) : evFun (slices_Clone_impl_grid_string_E k) [.v (.sl T.s)] (.o 9 T.s) Tryd.f103 (x0, ()) = slices_Clone_impl_grid_string k x0 := by
  skip
  rw [slices_Clone_impl_grid_string_st]; rfl
theorem slices_Clone_impl_grid_string_c (k : Nat) : Contract Tryd.prog 103 (slices_Clone_impl_grid_string_O k) :=
  fun_sound (c := bodyOf Tryd.f103) (tab_ok Tryd_tab_ok rfl rfl) orc_nil Tryd.func103 (by kernel_rfl) rfl (by kernel_rfl) (by decide) rfl rfl (by kernel_rfl) (by kernel_rfl) (by kernel_rfl) (fun x _ h => (slices_Clone_impl_grid_string_ev k x.1).trans h)
end Ev
/- (loop.example/g01207/impl.grid).put -/
namespace Ev
open Go Go.Proofs
/-! (impl.grid).put -/
def im_grid_put_s (k : Nat) (x0 : (List (List Int))) (x1 : Int) (x2 : Int) (x3 : Int) : Option (List (List Int)) :=
  (slices_Clone_impl_grid_string k x0).bind fun r1 =>
  inb x2 r1.length (
    if (r1.getD (x2).toNat ([] : (List Int))).length ≤ 17179869184 then (
      inb x1 (r1.getD (x2).toNat ([] : (List Int))).length (
        inb x2 r1.length (
          some (r1.set (x2).toNat ((r1.getD (x2).toNat ([] : (List Int))).set (x1).toNat (IntKind.u8.wrap (IntKind.i64.wrap ((48 : Int) + x3)))))))) else none)
def im_grid_put (k : Nat) (x0 : (List (List Int))) (x1 : Int) (x2 : Int) (x3 : Int) : Option (List (List Int)) := im_grid_put_s k x0 x1 x2 x3
noncomputable def im_grid_put_O (k : Nat) : Orc := { ps := [.v (.sl T.s), .v I, .v I, .v I], rt := (.o 9 T.s), F := fun x => im_grid_put k x.1 x.2.1 x.2.2.1 x.2.2.2.1 }
noncomputable def im_grid_put_E (k : Nat) : Env := { ty := tabTy Tryd_tab, ds := tabDs Tryd_tab, rounds := k, nt := 30, orc := fun g => if Nat.beq g 103 = true then some (slices_Clone_impl_grid_string_O k) else (none), lp := fun _ => none, ct := fun _ => none, plan := fun _ => none }
noncomputable def im_grid_put_fin (k : Nat) : Kn (List (List Int)) := finish (im_grid_put_E k) [.v (.sl T.s), .v I, .v I, .v I] (.o 9 T.s) Tryd.f61.results.toList
theorem im_grid_put_st (k : Nat) (x0 : (List (List Int))) (x1 : Int) (x2 : Int) (x3 : Int) : evFun (im_grid_put_E k) [.v (.sl T.s), .v I, .v I, .v I] (.o 9 T.s) Tryd.f61 (x0, x1, x2, x3, ()) = im_grid_put_s k x0 x1 x2 x3 := by kernel_rfl
theorem im_grid_put_ev (k : Nat) (x0 : (List (List Int))) (x1 : Int) (x2 : Int) (x3 : Int) : evFun (im_grid_put_E k) [.v (.sl T.s), .v I, .v I, .v I] (.o 9 T.s) Tryd.f61 (x0, x1, x2, x3, ()) = im_grid_put k x0 x1 x2 x3 := by
  skip
  rw [im_grid_put_st]; rfl
theorem im_grid_put_c (k : Nat) : Contract Tryd.prog 61 (im_grid_put_O k) :=
  fun_sound (c := bodyOf Tryd.f61) (tab_ok Tryd_tab_ok rfl rfl) (orc_cons (slices_Clone_impl_grid_string_c k) orc_nil) Tryd.func61 (by kernel_rfl) rfl (by kernel_rfl) (by decide) rfl rfl (by kernel_rfl) (by kernel_rfl) (by kernel_rfl) (fun x _ h => (im_grid_put_ev k x.1 x.2.1 x.2.2.1 x.2.2.2.1).trans h)
end Ev
/- loop.example/g01207/spec.prText -/
namespace Ev
open Go Go.Proofs
/-! spec.prText -/
def sp_prText_s (k : Nat) (x0 : tboGrid.in) (x1 : (List Int)) : Option (List Int) :=
  (sp_boText k (x0.1, x0.2.1, x1, ())).bind fun r1 =>
  some r1
def sp_prText (k : Nat) (x0 : tboGrid.in) (x1 : (List Int)) : Option (List Int) := sp_prText_s k x0 x1
noncomputable def sp_prText_O (k : Nat) : Orc := { ps := [.v tboGrid, .v (.sl (.i .u8))], rt := (.v T.s), F := fun x => sp_prText k x.1 x.2.1 }
noncomputable def sp_prText_E (k : Nat) : Env := { ty := tabTy Tryd_tab, ds := tabDs Tryd_tab, rounds := k, nt := 12, orc := fun g => if Nat.beq g 46 = true then some (sp_boText_O k) else (none), lp := fun _ => none, ct := fun _ => none, plan := fun _ => none }
noncomputable def sp_prText_fin (k : Nat) : Kn (List Int) := finish (sp_prText_E k) [.v tboGrid, .v (.sl (.i .u8))] (.v T.s) Tryd.f59.results.toList
theorem sp_prText_st (k : Nat) (x0 : tboGrid.in) (x1 : (List Int)) : evFun (sp_prText_E k) [.v tboGrid, .v (.sl (.i .u8))] (.v T.s) Tryd.f59 (x0, x1, ()) = sp_prText_s k x0 x1 := by kernel_rfl
theorem sp_prText_ev (k : Nat) (x0 : tboGrid.in) (x1 : (List Int)) : evFun (sp_prText_E k) [.v tboGrid, .v (.sl (.i .u8))] (.v T.s) Tryd.f59 (x0, x1, ()) = sp_prText k x0 x1 := by
  skip
  rw [sp_prText_st]; rfl
theorem sp_prText_c (k : Nat) : Contract Tryd.prog 59 (sp_prText_O k) :=
  fun_sound (c := bodyOf Tryd.f59) (tab_ok Tryd_tab_ok rfl rfl) (orc_cons (sp_boText_c k) orc_nil) Tryd.func59 (by kernel_rfl) rfl (by kernel_rfl) (by decide) rfl rfl (by kernel_rfl) (by kernel_rfl) (by kernel_rfl) (fun x _ h => (sp_prText_ev k x.1 x.2.1).trans h)
end Ev
/- loop.example/g01207/spec.PrintsAlong -/
namespace Ev
open Go Go.Proofs
/-! spec.PrintsAlong -/
@[reducible] def sp_PrintsAlong_l7_L : List (Nat × Sh) := [(10, (.bx 66 (.v tboGrid))), (12, (.o 5 (.i .u8))), (33, (.o 31 tState)), (34, (.v I)), (35, (.v I))]
def sp_PrintsAlong_l7s (k : Nat) (g_l7 : tboGrid.in → (List Int) → (List tState.in) → Int → Int → Option ((List Int) × (Bool × Unit))) (x10 : tboGrid.in) (x12 : (List Int)) (x33 : (List tState.in)) (x34 : Int) (x35 : Int) : Option ((List Int) × (Bool × Unit)) :=
  if (decide (x35 < x34)) = true then
    inb x35 x33.length (
      inb (IntKind.i64.wrap ((IntKind.i64.wrap ((x33.getD (x35).toNat ((0 : Int), (0 : Int), ((0 : Int), (0 : Int), (0 : Int), (0 : Int), (0 : Int), (0 : Int), ()), ())).2.1 * x10.1)) + (x33.getD (x35).toNat ((0 : Int), (0 : Int), ((0 : Int), (0 : Int), (0 : Int), (0 : Int), (0 : Int), (0 : Int), ()), ())).1)) x12.length (
        g_l7 x10 (x12.set ((IntKind.i64.wrap ((IntKind.i64.wrap ((x33.getD (x35).toNat ((0 : Int), (0 : Int), ((0 : Int), (0 : Int), (0 : Int), (0 : Int), (0 : Int), (0 : Int), ()), ())).2.1 * x10.1)) + (x33.getD (x35).toNat ((0 : Int), (0 : Int), ((0 : Int), (0 : Int), (0 : Int), (0 : Int), (0 : Int), (0 : Int), ()), ())).1))).toNat (IntKind.u8.wrap (IntKind.i64.wrap ((48 : Int) + (x33.getD (x35).toNat ((0 : Int), (0 : Int), ((0 : Int), (0 : Int), (0 : Int), (0 : Int), (0 : Int), (0 : Int), ()), ())).2.2.1.2.2.2.2.2.1)))) x33 x34 (IntKind.i64.wrap (x35 + (1 : Int)))))
  else
    (sp_prText k x10 x12).bind fun r3 =>
    some (r3, true, ())
def sp_PrintsAlong_l7 (k : Nat)  : Nat → tboGrid.in → (List Int) → (List tState.in) → Int → Int → Option ((List Int) × (Bool × Unit))
  | 0, _, _, _, _, _ => none
  | n + 1, x10, x12, x33, x34, x35 => sp_PrintsAlong_l7s k (sp_PrintsAlong_l7 k n) x10 x12 x33 x34 x35
def sp_PrintsAlong_s (k : Nat) (c_l7 : tboGrid.in → (List Int) → (List tState.in) → Int → Int → Option ((List Int) × (Bool × Unit))) (x0 : (List Int)) (x1 : tState.in) (x2 : (List Int)) : Option ((List Int) × (Bool × Unit)) :=
  (sp_boWay k x0 x1 x2).bind fun r1 =>
  if (!r1.2.1) = true then
    some (([] : List Int), false, ())
  else
    (sp_boRead k x0).bind fun r2 =>
    if ([] : List Int).length + r2.1.2.2.1.length ≤ 17179869184 then (
      c_l7 r2.1 (([] : List Int) ++ r2.1.2.2.1) r1.1 (r1.1.length : Int) (0 : Int)) else none
def sp_PrintsAlong (k : Nat) (x0 : (List Int)) (x1 : tState.in) (x2 : (List Int)) : Option ((List Int) × (Bool × Unit)) := sp_PrintsAlong_s k (sp_PrintsAlong_l7 k k) x0 x1 x2
noncomputable def sp_PrintsAlong_O (k : Nat) : Orc := { ps := [.v T.s, .v tState, .v T.s], rt := (.pr (.v T.s) (.pr (.v T.b) .un)), F := fun x => sp_PrintsAlong k x.1 x.2.1 x.2.2.1 }
noncomputable def sp_PrintsAlong_E (k : Nat) : Env := { ty := tabTy Tryd_tab, ds := tabDs Tryd_tab, rounds := k, nt := 58, orc := fun g => if Nat.beq g 44 = true then some (sp_boRead_O k) else (if Nat.beq g 54 = true then some (sp_boWay_O k) else (if Nat.beq g 59 = true then some (sp_prText_O k) else (none))), lp := fun i => if Nat.beq i 7 = true then some sp_PrintsAlong_l7_L else (none), ct := fun _ => none, plan := fun _ => none }
noncomputable def sp_PrintsAlong_fin (k : Nat) : Kn ((List Int) × (Bool × Unit)) := finish (sp_PrintsAlong_E k) [.v T.s, .v tState, .v T.s] (.pr (.v T.s) (.pr (.v T.b) .un)) Tryd.f23.results.toList
noncomputable def sp_PrintsAlong_l7_e (k : Nat)  (n : Nat) (x10 : tboGrid.in) (x12 : (List Int)) (x33 : (List tState.in)) (x34 : Int) (x35 : Int) : Option ((List Int) × (Bool × Unit)) := loopF (sp_PrintsAlong_E k) sp_PrintsAlong_l7_L (ev (sp_PrintsAlong_E k) (sub (bodyOf Tryd.f23) [.r, .r, .r, .r, .r, .l, .r, .c, .c])) (kont (sp_PrintsAlong_E k) (bodyOf Tryd.f23) [.r, .r, .r, .r, .r, .l, .r, .c] [] (sp_PrintsAlong_fin k)) n (x10, x12, x33, x34, x35, ())
theorem sp_PrintsAlong_l7_z (k : Nat)  (x10 : tboGrid.in) (x12 : (List Int)) (x33 : (List tState.in)) (x34 : Int) (x35 : Int) : sp_PrintsAlong_l7_e k 0 x10 x12 x33 x34 x35 = none := by kernel_rfl
theorem sp_PrintsAlong_l7_st (k : Nat)  (n : Nat) (x10 : tboGrid.in) (x12 : (List Int)) (x33 : (List tState.in)) (x34 : Int) (x35 : Int) : sp_PrintsAlong_l7_e k (n + 1) x10 x12 x33 x34 x35 = sp_PrintsAlong_l7s k (sp_PrintsAlong_l7_e k n) x10 x12 x33 x34 x35 := by kernel_rfl
theorem sp_PrintsAlong_l7_ev (k : Nat)  : ∀ (n : Nat) (x10 : tboGrid.in) (x12 : (List Int)) (x33 : (List tState.in)) (x34 : Int) (x35 : Int), sp_PrintsAlong_l7_e k n x10 x12 x33 x34 x35 = sp_PrintsAlong_l7 k n x10 x12 x33 x34 x35
  | 0, x10, x12, x33, x34, x35 => sp_PrintsAlong_l7_z k x10 x12 x33 x34 x35
  | n + 1, x10, x12, x33, x34, x35 => by
    have ih : (sp_PrintsAlong_l7_e k n) = sp_PrintsAlong_l7 k n := by funext y0 y1 y2 y3 y4; exact sp_PrintsAlong_l7_ev k n y0 y1 y2 y3 y4
    rw [sp_PrintsAlong_l7_st, ih]; rfl
theorem sp_PrintsAlong_st (k : Nat) (x0 : (List Int)) (x1 : tState.in) (x2 : (List Int)) : evFun (sp_PrintsAlong_E k) [.v T.s, .v tState, .v T.s] (.pr (.v T.s) (.pr (.v T.b) .un)) Tryd.f23 (x0, x1, x2, ()) = sp_PrintsAlong_s k (sp_PrintsAlong_l7_e k k) x0 x1 x2 := by kernel_rfl
theorem sp_PrintsAlong_ev (k : Nat) (x0 : (List Int)) (x1 : tState.in) (x2 : (List Int)) : evFun (sp_PrintsAlong_E k) [.v T.s, .v tState, .v T.s] (.pr (.v T.s) (.pr (.v T.b) .un)) Tryd.f23 (x0, x1, x2, ()) = sp_PrintsAlong k x0 x1 x2 := by
  have h0 : (sp_PrintsAlong_l7_e k k) = (sp_PrintsAlong_l7 k k) := by funext y0 y1 y2 y3 y4; exact sp_PrintsAlong_l7_ev k k y0 y1 y2 y3 y4
  rw [sp_PrintsAlong_st, h0]; rfl
theorem sp_PrintsAlong_c (k : Nat) : Contract Tryd.prog 23 (sp_PrintsAlong_O k) :=
  fun_sound (c := bodyOf Tryd.f23) (tab_ok Tryd_tab_ok rfl rfl) (orc_cons (sp_boRead_c k) (orc_cons (sp_boWay_c k) (orc_cons (sp_prText_c k) orc_nil))) Tryd.func23 (by kernel_rfl) rfl (by kernel_rfl) (by decide) rfl rfl (by kernel_rfl) (by kernel_rfl) (by kernel_rfl) (fun x _ h => (sp_PrintsAlong_ev k x.1 x.2.1 x.2.2.1).trans h)
end Ev
/- loop.example/g01207/impl.PrintsAlong -/
namespace Ev
open Go Go.Proofs
/-! impl.PrintsAlong -/
@[reducible] def im_PrintsAlong_l6_L : List (Nat × Sh) := [(10, (.v (.sl T.s))), (28, (.o 31 tState)), (29, (.v I)), (30, (.v I))]
def im_PrintsAlong_l6s (k : Nat) (g_l6 : (List (List Int)) → (List tState.in) → Int → Int → Option ((List Int) × (Bool × Unit))) (x10 : (List (List Int))) (x28 : (List tState.in)) (x29 : Int) (x30 : Int) : Option ((List Int) × (Bool × Unit)) :=
  if (decide (x30 < x29)) = true then
    inb x30 x28.length (
      (im_grid_put k x10 (x28.getD (x30).toNat ((0 : Int), (0 : Int), ((0 : Int), (0 : Int), (0 : Int), (0 : Int), (0 : Int), (0 : Int), ()), ())).1 (x28.getD (x30).toNat ((0 : Int), (0 : Int), ((0 : Int), (0 : Int), (0 : Int), (0 : Int), (0 : Int), (0 : Int), ()), ())).2.1 (x28.getD (x30).toNat ((0 : Int), (0 : Int), ((0 : Int), (0 : Int), (0 : Int), (0 : Int), (0 : Int), (0 : Int), ()), ())).2.2.1.2.2.2.2.2.1).bind fun r3 =>
      g_l6 r3 x28 x29 (IntKind.i64.wrap (x30 + (1 : Int))))
  else
    (im_grid_text k x10).bind fun r4 =>
    some (r4, true, ())
def im_PrintsAlong_l6 (k : Nat)  : Nat → (List (List Int)) → (List tState.in) → Int → Int → Option ((List Int) × (Bool × Unit))
  | 0, _, _, _, _ => none
  | n + 1, x10, x28, x29, x30 => im_PrintsAlong_l6s k (im_PrintsAlong_l6 k n) x10 x28 x29 x30
def im_PrintsAlong_s (k : Nat) (c_l6 : (List (List Int)) → (List tState.in) → Int → Int → Option ((List Int) × (Bool × Unit))) (x0 : (List Int)) (x1 : tState.in) (x2 : (List Int)) : Option ((List Int) × (Bool × Unit)) :=
  (im_statesAlong k x0 x1 x2).bind fun r1 =>
  if (!r1.2.1) = true then
    some (([] : List Int), false, ())
  else
    (im_board k x0).bind fun r2 =>
    c_l6 r2.1 r1.1 (r1.1.length : Int) (0 : Int)
def im_PrintsAlong (k : Nat) (x0 : (List Int)) (x1 : tState.in) (x2 : (List Int)) : Option ((List Int) × (Bool × Unit)) := im_PrintsAlong_s k (im_PrintsAlong_l6 k k) x0 x1 x2
noncomputable def im_PrintsAlong_O (k : Nat) : Orc := { ps := [.v T.s, .v tState, .v T.s], rt := (.pr (.v T.s) (.pr (.v T.b) .un)), F := fun x => im_PrintsAlong k x.1 x.2.1 x.2.2.1 }
noncomputable def im_PrintsAlong_E (k : Nat) : Env := { ty := tabTy Tryd_tab, ds := tabDs Tryd_tab, rounds := k, nt := 46, orc := fun g => if Nat.beq g 49 = true then some (im_board_O k) else (if Nat.beq g 56 = true then some (im_statesAlong_O k) else (if Nat.beq g 61 = true then some (im_grid_put_O k) else (if Nat.beq g 62 = true then some (im_grid_text_O k) else (none)))), lp := fun i => if Nat.beq i 6 = true then some im_PrintsAlong_l6_L else (none), ct := fun _ => none, plan := fun _ => none }
noncomputable def im_PrintsAlong_fin (k : Nat) : Kn ((List Int) × (Bool × Unit)) := finish (im_PrintsAlong_E k) [.v T.s, .v tState, .v T.s] (.pr (.v T.s) (.pr (.v T.b) .un)) Tryd.f25.results.toList
noncomputable def im_PrintsAlong_l6_e (k : Nat)  (n : Nat) (x10 : (List (List Int))) (x28 : (List tState.in)) (x29 : Int) (x30 : Int) : Option ((List Int) × (Bool × Unit)) := loopF (im_PrintsAlong_E k) im_PrintsAlong_l6_L (ev (im_PrintsAlong_E k) (sub (bodyOf Tryd.f25) [.r, .r, .r, .r, .l, .r, .c, .c])) (kont (im_PrintsAlong_E k) (bodyOf Tryd.f25) [.r, .r, .r, .r, .l, .r, .c] [] (im_PrintsAlong_fin k)) n (x10, x28, x29, x30, ())
theorem im_PrintsAlong_l6_z (k : Nat)  (x10 : (List (List Int))) (x28 : (List tState.in)) (x29 : Int) (x30 : Int) : im_PrintsAlong_l6_e k 0 x10 x28 x29 x30 = none := by kernel_rfl
theorem im_PrintsAlong_l6_st (k : Nat)  (n : Nat) (x10 : (List (List Int))) (x28 : (List tState.in)) (x29 : Int) (x30 : Int) : im_PrintsAlong_l6_e k (n + 1) x10 x28 x29 x30 = im_PrintsAlong_l6s k (im_PrintsAlong_l6_e k n) x10 x28 x29 x30 := by kernel_rfl
theorem im_PrintsAlong_l6_ev (k : Nat)  : ∀ (n : Nat) (x10 : (List (List Int))) (x28 : (List tState.in)) (x29 : Int) (x30 : Int), im_PrintsAlong_l6_e k n x10 x28 x29 x30 = im_PrintsAlong_l6 k n x10 x28 x29 x30
  | 0, x10, x28, x29, x30 => im_PrintsAlong_l6_z k x10 x28 x29 x30
  | n + 1, x10, x28, x29, x30 => by
    have ih : (im_PrintsAlong_l6_e k n) = im_PrintsAlong_l6 k n := by funext y0 y1 y2 y3; exact im_PrintsAlong_l6_ev k n y0 y1 y2 y3
    rw [im_PrintsAlong_l6_st, ih]; rfl
theorem im_PrintsAlong_st (k : Nat) (x0 : (List Int)) (x1 : tState.in) (x2 : (List Int)) : evFun (im_PrintsAlong_E k) [.v T.s, .v tState, .v T.s] (.pr (.v T.s) (.pr (.v T.b) .un)) Tryd.f25 (x0, x1, x2, ()) = im_PrintsAlong_s k (im_PrintsAlong_l6_e k k) x0 x1 x2 := by kernel_rfl
theorem im_PrintsAlong_ev (k : Nat) (x0 : (List Int)) (x1 : tState.in) (x2 : (List Int)) : evFun (im_PrintsAlong_E k) [.v T.s, .v tState, .v T.s] (.pr (.v T.s) (.pr (.v T.b) .un)) Tryd.f25 (x0, x1, x2, ()) = im_PrintsAlong k x0 x1 x2 := by
  have h0 : (im_PrintsAlong_l6_e k k) = (im_PrintsAlong_l6 k k) := by funext y0 y1 y2 y3; exact im_PrintsAlong_l6_ev k k y0 y1 y2 y3
  rw [im_PrintsAlong_st, h0]; rfl
theorem im_PrintsAlong_c (k : Nat) : Contract Tryd.prog 25 (im_PrintsAlong_O k) :=
  fun_sound (c := bodyOf Tryd.f25) (tab_ok Tryd_tab_ok rfl rfl) (orc_cons (im_board_c k) (orc_cons (im_statesAlong_c k) (orc_cons (im_grid_put_c k) (orc_cons (im_grid_text_c k) orc_nil)))) Tryd.func25 (by kernel_rfl) rfl (by kernel_rfl) (by decide) rfl rfl (by kernel_rfl) (by kernel_rfl) (by kernel_rfl) (fun x _ h => (im_PrintsAlong_ev k x.1 x.2.1 x.2.2.1).trans h)
end Ev
/- loop.example/g01207/spec.prDigit -/
namespace Ev
open Go Go.Proofs
/-! spec.prDigit -/
def sp_prDigit_s (_k : Nat) (x0 : Int) : Option Bool :=
  if (decide ((48 : Int) ≤ x0)) = true then
    some (decide (x0 ≤ (57 : Int)))
  else
    some false
def sp_prDigit (k : Nat) (x0 : Int) : Option Bool := sp_prDigit_s k x0
noncomputable def sp_prDigit_O (k : Nat) : Orc := { ps := [.v (.i .u8)], rt := (.v T.b), F := fun x => sp_prDigit k x.1 }
noncomputable def sp_prDigit_E (k : Nat) : Env := { ty := tabTy Tryd_tab, ds := tabDs Tryd_tab, rounds := k, nt := 9, orc := fun _ => none, lp := fun _ => none, ct := fun _ => none, plan := fun _ => none }
noncomputable def sp_prDigit_fin (k : Nat) : Kn Bool := finish (sp_prDigit_E k) [.v (.i .u8)] (.v T.b) Tryd.f63.results.toList
theorem sp_prDigit_st (k : Nat) (x0 : Int) : evFun (sp_prDigit_E k) [.v (.i .u8)] (.v T.b) Tryd.f63 (x0, ()) = sp_prDigit_s k x0 := by kernel_rfl
theorem sp_prDigit_ev (k : Nat) (x0 : Int) : evFun (sp_prDigit_E k) [.v (.i .u8)] (.v T.b) Tryd.f63 (x0, ()) = sp_prDigit k x0 := by
  skip
  rw [sp_prDigit_st]; rfl
theorem sp_prDigit_c (k : Nat) : Contract Tryd.prog 63 (sp_prDigit_O k) :=
  fun_sound (c := bodyOf Tryd.f63) (tab_ok Tryd_tab_ok rfl rfl) orc_nil Tryd.func63 (by kernel_rfl) rfl (by kernel_rfl) (by decide) rfl rfl (by kernel_rfl) (by kernel_rfl) (by kernel_rfl) (fun x _ h => (sp_prDigit_ev k x.1).trans h)
end Ev
/- loop.example/g01207/spec.LabelsOfWord -/
namespace Ev
open Go Go.Proofs
/-! spec.LabelsOfWord -/
@[reducible] def sp_LabelsOfWord_l7_L : List (Nat × Sh) := [(10, (.bx 66 (.v tboGrid))), (12, (.o 5 (.i .u8))), (35, (.o 31 tState)), (36, (.v I)), (37, (.v I))]
def sp_LabelsOfWord_l7s (k : Nat) (g_l7 : tboGrid.in → (List Int) → (List tState.in) → Int → Int → Option ((List Int) × (Bool × Unit))) (x10 : tboGrid.in) (x12 : (List Int)) (x35 : (List tState.in)) (x36 : Int) (x37 : Int) : Option ((List Int) × (Bool × Unit)) :=
  if (decide (x37 < x36)) = true then
    inb x37 x35.length (
      inb (IntKind.i64.wrap ((IntKind.i64.wrap ((x35.getD (x37).toNat ((0 : Int), (0 : Int), ((0 : Int), (0 : Int), (0 : Int), (0 : Int), (0 : Int), (0 : Int), ()), ())).2.1 * x10.1)) + (x35.getD (x37).toNat ((0 : Int), (0 : Int), ((0 : Int), (0 : Int), (0 : Int), (0 : Int), (0 : Int), (0 : Int), ()), ())).1)) x12.length (
        (sp_prDigit k (x12.getD ((IntKind.i64.wrap ((IntKind.i64.wrap ((x35.getD (x37).toNat ((0 : Int), (0 : Int), ((0 : Int), (0 : Int), (0 : Int), (0 : Int), (0 : Int), (0 : Int), ()), ())).2.1 * x10.1)) + (x35.getD (x37).toNat ((0 : Int), (0 : Int), ((0 : Int), (0 : Int), (0 : Int), (0 : Int), (0 : Int), (0 : Int), ()), ())).1))).toNat (0 : Int))).bind fun r3 =>
        if r3 = true then
          inb (IntKind.i64.wrap ((IntKind.i64.wrap ((x35.getD (x37).toNat ((0 : Int), (0 : Int), ((0 : Int), (0 : Int), (0 : Int), (0 : Int), (0 : Int), (0 : Int), ()), ())).2.1 * x10.1)) + (x35.getD (x37).toNat ((0 : Int), (0 : Int), ((0 : Int), (0 : Int), (0 : Int), (0 : Int), (0 : Int), (0 : Int), ()), ())).1)) x12.length (
            if (!decide ((x12.getD ((IntKind.i64.wrap ((IntKind.i64.wrap ((x35.getD (x37).toNat ((0 : Int), (0 : Int), ((0 : Int), (0 : Int), (0 : Int), (0 : Int), (0 : Int), (0 : Int), ()), ())).2.1 * x10.1)) + (x35.getD (x37).toNat ((0 : Int), (0 : Int), ((0 : Int), (0 : Int), (0 : Int), (0 : Int), (0 : Int), (0 : Int), ()), ())).1))).toNat (0 : Int)) = (IntKind.u8.wrap (IntKind.i64.wrap ((48 : Int) + (x35.getD (x37).toNat ((0 : Int), (0 : Int), ((0 : Int), (0 : Int), (0 : Int), (0 : Int), (0 : Int), (0 : Int), ()), ())).2.2.1.1))))) = true then
              some (([] : List Int), false, ())
            else
              inb (IntKind.i64.wrap ((IntKind.i64.wrap ((x35.getD (x37).toNat ((0 : Int), (0 : Int), ((0 : Int), (0 : Int), (0 : Int), (0 : Int), (0 : Int), (0 : Int), ()), ())).2.1 * x10.1)) + (x35.getD (x37).toNat ((0 : Int), (0 : Int), ((0 : Int), (0 : Int), (0 : Int), (0 : Int), (0 : Int), (0 : Int), ()), ())).1)) x12.length (
                g_l7 x10 (x12.set ((IntKind.i64.wrap ((IntKind.i64.wrap ((x35.getD (x37).toNat ((0 : Int), (0 : Int), ((0 : Int), (0 : Int), (0 : Int), (0 : Int), (0 : Int), (0 : Int), ()), ())).2.1 * x10.1)) + (x35.getD (x37).toNat ((0 : Int), (0 : Int), ((0 : Int), (0 : Int), (0 : Int), (0 : Int), (0 : Int), (0 : Int), ()), ())).1))).toNat (IntKind.u8.wrap (IntKind.i64.wrap ((48 : Int) + (x35.getD (x37).toNat ((0 : Int), (0 : Int), ((0 : Int), (0 : Int), (0 : Int), (0 : Int), (0 : Int), (0 : Int), ()), ())).2.2.1.1)))) x35 x36 (IntKind.i64.wrap (x37 + (1 : Int)))))
        else
          inb (IntKind.i64.wrap ((IntKind.i64.wrap ((x35.getD (x37).toNat ((0 : Int), (0 : Int), ((0 : Int), (0 : Int), (0 : Int), (0 : Int), (0 : Int), (0 : Int), ()), ())).2.1 * x10.1)) + (x35.getD (x37).toNat ((0 : Int), (0 : Int), ((0 : Int), (0 : Int), (0 : Int), (0 : Int), (0 : Int), (0 : Int), ()), ())).1)) x12.length (
            g_l7 x10 (x12.set ((IntKind.i64.wrap ((IntKind.i64.wrap ((x35.getD (x37).toNat ((0 : Int), (0 : Int), ((0 : Int), (0 : Int), (0 : Int), (0 : Int), (0 : Int), (0 : Int), ()), ())).2.1 * x10.1)) + (x35.getD (x37).toNat ((0 : Int), (0 : Int), ((0 : Int), (0 : Int), (0 : Int), (0 : Int), (0 : Int), (0 : Int), ()), ())).1))).toNat (IntKind.u8.wrap (IntKind.i64.wrap ((48 : Int) + (x35.getD (x37).toNat ((0 : Int), (0 : Int), ((0 : Int), (0 : Int), (0 : Int), (0 : Int), (0 : Int), (0 : Int), ()), ())).2.2.1.1)))) x35 x36 (IntKind.i64.wrap (x37 + (1 : Int))))))
  else
    (sp_prText k x10 x12).bind fun r4 =>
    some (r4, true, ())
def sp_LabelsOfWord_l7 (k : Nat)  : Nat → tboGrid.in → (List Int) → (List tState.in) → Int → Int → Option ((List Int) × (Bool × Unit))
  | 0, _, _, _, _, _ => none
  | n + 1, x10, x12, x35, x36, x37 => sp_LabelsOfWord_l7s k (sp_LabelsOfWord_l7 k n) x10 x12 x35 x36 x37
def sp_LabelsOfWord_s (k : Nat) (c_l7 : tboGrid.in → (List Int) → (List tState.in) → Int → Int → Option ((List Int) × (Bool × Unit))) (x0 : (List Int)) (x1 : tState.in) (x2 : (List Int)) : Option ((List Int) × (Bool × Unit)) :=
  (sp_boWay k x0 x1 x2).bind fun r1 =>
  if (!r1.2.1) = true then
    some (([] : List Int), false, ())
  else
    (sp_boRead k x0).bind fun r2 =>
    if ([] : List Int).length + r2.1.2.2.1.length ≤ 17179869184 then (
      c_l7 r2.1 (([] : List Int) ++ r2.1.2.2.1) r1.1 (r1.1.length : Int) (0 : Int)) else none
def sp_LabelsOfWord (k : Nat) (x0 : (List Int)) (x1 : tState.in) (x2 : (List Int)) : Option ((List Int) × (Bool × Unit)) := sp_LabelsOfWord_s k (sp_LabelsOfWord_l7 k k) x0 x1 x2
noncomputable def sp_LabelsOfWord_O (k : Nat) : Orc := { ps := [.v T.s, .v tState, .v T.s], rt := (.pr (.v T.s) (.pr (.v T.b) .un)), F := fun x => sp_LabelsOfWord k x.1 x.2.1 x.2.2.1 }
noncomputable def sp_LabelsOfWord_E (k : Nat) : Env := { ty := tabTy Tryd_tab, ds := tabDs Tryd_tab, rounds := k, nt := 75, orc := fun g => if Nat.beq g 44 = true then some (sp_boRead_O k) else (if Nat.beq g 54 = true then some (sp_boWay_O k) else (if Nat.beq g 59 = true then some (sp_prText_O k) else (if Nat.beq g 63 = true then some (sp_prDigit_O k) else (none)))), lp := fun i => if Nat.beq i 7 = true then some sp_LabelsOfWord_l7_L else (none), ct := fun _ => none, plan := fun i => if Nat.beq i 9 = true then some [(0, []), (1, []), (2, []), (3, []), (4, []), (5, []), (6, []), (7, []), (8, []), (9, []), (10, []), (11, []), (13, []), (12, []), (14, [])] else (none) }
noncomputable def sp_LabelsOfWord_fin (k : Nat) : Kn ((List Int) × (Bool × Unit)) := finish (sp_LabelsOfWord_E k) [.v T.s, .v tState, .v T.s] (.pr (.v T.s) (.pr (.v T.b) .un)) Tryd.f26.results.toList
noncomputable def sp_LabelsOfWord_l7_e (k : Nat)  (n : Nat) (x10 : tboGrid.in) (x12 : (List Int)) (x35 : (List tState.in)) (x36 : Int) (x37 : Int) : Option ((List Int) × (Bool × Unit)) := loopF (sp_LabelsOfWord_E k) sp_LabelsOfWord_l7_L (ev (sp_LabelsOfWord_E k) (sub (bodyOf Tryd.f26) [.r, .r, .r, .r, .r, .l, .r, .c, .c])) (kont (sp_LabelsOfWord_E k) (bodyOf Tryd.f26) [.r, .r, .r, .r, .r, .l, .r, .c] [] (sp_LabelsOfWord_fin k)) n (x10, x12, x35, x36, x37, ())
theorem sp_LabelsOfWord_l7_z (k : Nat)  (x10 : tboGrid.in) (x12 : (List Int)) (x35 : (List tState.in)) (x36 : Int) (x37 : Int) : sp_LabelsOfWord_l7_e k 0 x10 x12 x35 x36 x37 = none := by kernel_rfl
theorem sp_LabelsOfWord_l7_st (k : Nat)  (n : Nat) (x10 : tboGrid.in) (x12 : (List Int)) (x35 : (List tState.in)) (x36 : Int) (x37 : Int) : sp_LabelsOfWord_l7_e k (n + 1) x10 x12 x35 x36 x37 = sp_LabelsOfWord_l7s k (sp_LabelsOfWord_l7_e k n) x10 x12 x35 x36 x37 := by kernel_rfl
theorem sp_LabelsOfWord_l7_ev (k : Nat)  : ∀ (n : Nat) (x10 : tboGrid.in) (x12 : (List Int)) (x35 : (List tState.in)) (x36 : Int) (x37 : Int), sp_LabelsOfWord_l7_e k n x10 x12 x35 x36 x37 = sp_LabelsOfWord_l7 k n x10 x12 x35 x36 x37
  | 0, x10, x12, x35, x36, x37 => sp_LabelsOfWord_l7_z k x10 x12 x35 x36 x37
  | n + 1, x10, x12, x35, x36, x37 => by
    have ih : (sp_LabelsOfWord_l7_e k n) = sp_LabelsOfWord_l7 k n := by funext y0 y1 y2 y3 y4; exact sp_LabelsOfWord_l7_ev k n y0 y1 y2 y3 y4
    rw [sp_LabelsOfWord_l7_st, ih]; rfl
theorem sp_LabelsOfWord_st (k : Nat) (x0 : (List Int)) (x1 : tState.in) (x2 : (List Int)) : evFun (sp_LabelsOfWord_E k) [.v T.s, .v tState, .v T.s] (.pr (.v T.s) (.pr (.v T.b) .un)) Tryd.f26 (x0, x1, x2, ()) = sp_LabelsOfWord_s k (sp_LabelsOfWord_l7_e k k) x0 x1 x2 := by kernel_rfl
theorem sp_LabelsOfWord_ev (k : Nat) (x0 : (List Int)) (x1 : tState.in) (x2 : (List Int)) : evFun (sp_LabelsOfWord_E k) [.v T.s, .v tState, .v T.s] (.pr (.v T.s) (.pr (.v T.b) .un)) Tryd.f26 (x0, x1, x2, ()) = sp_LabelsOfWord k x0 x1 x2 := by
  have h0 : (sp_LabelsOfWord_l7_e k k) = (sp_LabelsOfWord_l7 k k) := by funext y0 y1 y2 y3 y4; exact sp_LabelsOfWord_l7_ev k k y0 y1 y2 y3 y4
  rw [sp_LabelsOfWord_st, h0]; rfl
theorem sp_LabelsOfWord_c (k : Nat) : Contract Tryd.prog 26 (sp_LabelsOfWord_O k) :=
  fun_sound (c := bodyOf Tryd.f26) (tab_ok Tryd_tab_ok rfl rfl) (orc_cons (sp_boRead_c k) (orc_cons (sp_boWay_c k) (orc_cons (sp_prText_c k) (orc_cons (sp_prDigit_c k) orc_nil)))) Tryd.func26 (by kernel_rfl) rfl (by kernel_rfl) (by decide) rfl rfl (by kernel_rfl) (by kernel_rfl) (by kernel_rfl) (fun x _ h => (sp_LabelsOfWord_ev k x.1 x.2.1 x.2.2.1).trans h)
end Ev
/- loop.example/g01207/impl.isDigit -/
namespace Ev
open Go Go.Proofs
/-! impl.isDigit -/
def im_isDigit_s (_k : Nat) (x0 : Int) : Option Bool :=
  if (decide ((48 : Int) ≤ x0)) = true then
    some (decide (x0 ≤ (57 : Int)))
  else
    some false
def im_isDigit (k : Nat) (x0 : Int) : Option Bool := im_isDigit_s k x0
noncomputable def im_isDigit_O (k : Nat) : Orc := { ps := [.v (.i .u8)], rt := (.v T.b), F := fun x => im_isDigit k x.1 }
noncomputable def im_isDigit_E (k : Nat) : Env := { ty := tabTy Tryd_tab, ds := tabDs Tryd_tab, rounds := k, nt := 9, orc := fun _ => none, lp := fun _ => none, ct := fun _ => none, plan := fun _ => none }
noncomputable def im_isDigit_fin (k : Nat) : Kn Bool := finish (im_isDigit_E k) [.v (.i .u8)] (.v T.b) Tryd.f104.results.toList
theorem im_isDigit_st (k : Nat) (x0 : Int) : evFun (im_isDigit_E k) [.v (.i .u8)] (.v T.b) Tryd.f104 (x0, ()) = im_isDigit_s k x0 := by kernel_rfl
theorem im_isDigit_ev (k : Nat) (x0 : Int) : evFun (im_isDigit_E k) [.v (.i .u8)] (.v T.b) Tryd.f104 (x0, ()) = im_isDigit k x0 := by
  skip
  rw [im_isDigit_st]; rfl
theorem im_isDigit_c (k : Nat) : Contract Tryd.prog 104 (im_isDigit_O k) :=
  fun_sound (c := bodyOf Tryd.f104) (tab_ok Tryd_tab_ok rfl rfl) orc_nil Tryd.func104 (by kernel_rfl) rfl (by kernel_rfl) (by decide) rfl rfl (by kernel_rfl) (by kernel_rfl) (by kernel_rfl) (fun x _ h => (im_isDigit_ev k x.1).trans h)
end Ev
/- (loop.example/g01207/impl.grid).label -/
namespace Ev
open Go Go.Proofs
/-! (impl.grid).label -/
def im_grid_label_s (k : Nat) (x0 : (List (List Int))) (x1 : Int) (x2 : Int) : Option (Int × (Bool × Unit)) :=
  (im_grid_at k x0 x1 x2).bind fun r1 =>
  (im_isDigit k r1).bind fun r2 =>
  some ((IntKind.i64.wrap ((IntKind.i64.wrap r1) - (48 : Int))), r2, ())
def im_grid_label (k : Nat) (x0 : (List (List Int))) (x1 : Int) (x2 : Int) : Option (Int × (Bool × Unit)) := im_grid_label_s k x0 x1 x2
noncomputable def im_grid_label_O (k : Nat) : Orc := { ps := [.v (.sl T.s), .v I, .v I], rt := (.pr (.v I) (.pr (.v T.b) .un)), F := fun x => im_grid_label k x.1 x.2.1 x.2.2.1 }
noncomputable def im_grid_label_E (k : Nat) : Env := { ty := tabTy Tryd_tab, ds := tabDs Tryd_tab, rounds := k, nt := 18, orc := fun g => if Nat.beq g 70 = true then some (im_grid_at_O k) else (if Nat.beq g 104 = true then some (im_isDigit_O k) else (none)), lp := fun _ => none, ct := fun _ => none, plan := fun _ => none }
noncomputable def im_grid_label_fin (k : Nat) : Kn (Int × (Bool × Unit)) := finish (im_grid_label_E k) [.v (.sl T.s), .v I, .v I] (.pr (.v I) (.pr (.v T.b) .un)) Tryd.f64.results.toList
theorem im_grid_label_st (k : Nat) (x0 : (List (List Int))) (x1 : Int) (x2 : Int) : evFun (im_grid_label_E k) [.v (.sl T.s), .v I, .v I] (.pr (.v I) (.pr (.v T.b) .un)) Tryd.f64 (x0, x1, x2, ()) = im_grid_label_s k x0 x1 x2 := by kernel_rfl
theorem im_grid_label_ev (k : Nat) (x0 : (List (List Int))) (x1 : Int) (x2 : Int) : evFun (im_grid_label_E k) [.v (.sl T.s), .v I, .v I] (.pr (.v I) (.pr (.v T.b) .un)) Tryd.f64 (x0, x1, x2, ()) = im_grid_label k x0 x1 x2 := by
  skip
  rw [im_grid_label_st]; rfl
theorem im_grid_label_c (k : Nat) : Contract Tryd.prog 64 (im_grid_label_O k) :=
  fun_sound (c := bodyOf Tryd.f64) (tab_ok Tryd_tab_ok rfl rfl) (orc_cons (im_grid_at_c k) (orc_cons (im_isDigit_c k) orc_nil)) Tryd.func64 (by kernel_rfl) rfl (by kernel_rfl) (by decide) rfl rfl (by kernel_rfl) (by kernel_rfl) (by kernel_rfl) (fun x _ h => (im_grid_label_ev k x.1 x.2.1 x.2.2.1).trans h)
end Ev
/- loop.example/g01207/impl.LabelsOfWord -/
namespace Ev
open Go Go.Proofs
/-! impl.LabelsOfWord -/
@[reducible] def im_LabelsOfWord_l6_L : List (Nat × Sh) := [(10, (.v (.sl T.s))), (30, (.o 31 tState)), (31, (.v I)), (32, (.v I))]
def im_LabelsOfWord_l6s (k : Nat) (g_l6 : (List (List Int)) → (List tState.in) → Int → Int → Option ((List Int) × (Bool × Unit))) (x10 : (List (List Int))) (x30 : (List tState.in)) (x31 : Int) (x32 : Int) : Option ((List Int) × (Bool × Unit)) :=
  if (decide (x32 < x31)) = true then
    inb x32 x30.length (
      (im_grid_label k x10 (x30.getD (x32).toNat ((0 : Int), (0 : Int), ((0 : Int), (0 : Int), (0 : Int), (0 : Int), (0 : Int), (0 : Int), ()), ())).1 (x30.getD (x32).toNat ((0 : Int), (0 : Int), ((0 : Int), (0 : Int), (0 : Int), (0 : Int), (0 : Int), (0 : Int), ()), ())).2.1).bind fun r3 =>
      if r3.2.1 = true then
        if (!decide (r3.1 = (x30.getD (x32).toNat ((0 : Int), (0 : Int), ((0 : Int), (0 : Int), (0 : Int), (0 : Int), (0 : Int), (0 : Int), ()), ())).2.2.1.1)) = true then
          some (([] : List Int), false, ())
        else
          (im_grid_put k x10 (x30.getD (x32).toNat ((0 : Int), (0 : Int), ((0 : Int), (0 : Int), (0 : Int), (0 : Int), (0 : Int), (0 : Int), ()), ())).1 (x30.getD (x32).toNat ((0 : Int), (0 : Int), ((0 : Int), (0 : Int), (0 : Int), (0 : Int), (0 : Int), (0 : Int), ()), ())).2.1 (x30.getD (x32).toNat ((0 : Int), (0 : Int), ((0 : Int), (0 : Int), (0 : Int), (0 : Int), (0 : Int), (0 : Int), ()), ())).2.2.1.1).bind fun r4 =>
          g_l6 r4 x30 x31 (IntKind.i64.wrap (x32 + (1 : Int)))
      else
        (im_grid_put k x10 (x30.getD (x32).toNat ((0 : Int), (0 : Int), ((0 : Int), (0 : Int), (0 : Int), (0 : Int), (0 : Int), (0 : Int), ()), ())).1 (x30.getD (x32).toNat ((0 : Int), (0 : Int), ((0 : Int), (0 : Int), (0 : Int), (0 : Int), (0 : Int), (0 : Int), ()), ())).2.1 (x30.getD (x32).toNat ((0 : Int), (0 : Int), ((0 : Int), (0 : Int), (0 : Int), (0 : Int), (0 : Int), (0 : Int), ()), ())).2.2.1.1).bind fun r5 =>
        g_l6 r5 x30 x31 (IntKind.i64.wrap (x32 + (1 : Int))))
  else
    (im_grid_text k x10).bind fun r6 =>
    some (r6, true, ())
def im_LabelsOfWord_l6 (k : Nat)  : Nat → (List (List Int)) → (List tState.in) → Int → Int → Option ((List Int) × (Bool × Unit))
  | 0, _, _, _, _ => none
  | n + 1, x10, x30, x31, x32 => im_LabelsOfWord_l6s k (im_LabelsOfWord_l6 k n) x10 x30 x31 x32
def im_LabelsOfWord_s (k : Nat) (c_l6 : (List (List Int)) → (List tState.in) → Int → Int → Option ((List Int) × (Bool × Unit))) (x0 : (List Int)) (x1 : tState.in) (x2 : (List Int)) : Option ((List Int) × (Bool × Unit)) :=
  (im_statesAlong k x0 x1 x2).bind fun r1 =>
  if (!r1.2.1) = true then
    some (([] : List Int), false, ())
  else
    (im_board k x0).bind fun r2 =>
    c_l6 r2.1 r1.1 (r1.1.length : Int) (0 : Int)
def im_LabelsOfWord (k : Nat) (x0 : (List Int)) (x1 : tState.in) (x2 : (List Int)) : Option ((List Int) × (Bool × Unit)) := im_LabelsOfWord_s k (im_LabelsOfWord_l6 k k) x0 x1 x2
noncomputable def im_LabelsOfWord_O (k : Nat) : Orc := { ps := [.v T.s, .v tState, .v T.s], rt := (.pr (.v T.s) (.pr (.v T.b) .un)), F := fun x => im_LabelsOfWord k x.1 x.2.1 x.2.2.1 }
noncomputable def im_LabelsOfWord_E (k : Nat) : Env := { ty := tabTy Tryd_tab, ds := tabDs Tryd_tab, rounds := k, nt := 65, orc := fun g => if Nat.beq g 49 = true then some (im_board_O k) else (if Nat.beq g 56 = true then some (im_statesAlong_O k) else (if Nat.beq g 61 = true then some (im_grid_put_O k) else (if Nat.beq g 62 = true then some (im_grid_text_O k) else (if Nat.beq g 64 = true then some (im_grid_label_O k) else (none))))), lp := fun i => if Nat.beq i 6 = true then some im_LabelsOfWord_l6_L else (none), ct := fun _ => none, plan := fun _ => none }
noncomputable def im_LabelsOfWord_fin (k : Nat) : Kn ((List Int) × (Bool × Unit)) := finish (im_LabelsOfWord_E k) [.v T.s, .v tState, .v T.s] (.pr (.v T.s) (.pr (.v T.b) .un)) Tryd.f27.results.toList
noncomputable def im_LabelsOfWord_l6_e (k : Nat)  (n : Nat) (x10 : (List (List Int))) (x30 : (List tState.in)) (x31 : Int) (x32 : Int) : Option ((List Int) × (Bool × Unit)) := loopF (im_LabelsOfWord_E k) im_LabelsOfWord_l6_L (ev (im_LabelsOfWord_E k) (sub (bodyOf Tryd.f27) [.r, .r, .r, .r, .l, .r, .c, .c])) (kont (im_LabelsOfWord_E k) (bodyOf Tryd.f27) [.r, .r, .r, .r, .l, .r, .c] [] (im_LabelsOfWord_fin k)) n (x10, x30, x31, x32, ())
theorem im_LabelsOfWord_l6_z (k : Nat)  (x10 : (List (List Int))) (x30 : (List tState.in)) (x31 : Int) (x32 : Int) : im_LabelsOfWord_l6_e k 0 x10 x30 x31 x32 = none := by kernel_rfl
theorem im_LabelsOfWord_l6_st (k : Nat)  (n : Nat) (x10 : (List (List Int))) (x30 : (List tState.in)) (x31 : Int) (x32 : Int) : im_LabelsOfWord_l6_e k (n + 1) x10 x30 x31 x32 = im_LabelsOfWord_l6s k (im_LabelsOfWord_l6_e k n) x10 x30 x31 x32 := by kernel_rfl
theorem im_LabelsOfWord_l6_ev (k : Nat)  : ∀ (n : Nat) (x10 : (List (List Int))) (x30 : (List tState.in)) (x31 : Int) (x32 : Int), im_LabelsOfWord_l6_e k n x10 x30 x31 x32 = im_LabelsOfWord_l6 k n x10 x30 x31 x32
  | 0, x10, x30, x31, x32 => im_LabelsOfWord_l6_z k x10 x30 x31 x32
  | n + 1, x10, x30, x31, x32 => by
    have ih : (im_LabelsOfWord_l6_e k n) = im_LabelsOfWord_l6 k n := by funext y0 y1 y2 y3; exact im_LabelsOfWord_l6_ev k n y0 y1 y2 y3
    rw [im_LabelsOfWord_l6_st, ih]; rfl
theorem im_LabelsOfWord_st (k : Nat) (x0 : (List Int)) (x1 : tState.in) (x2 : (List Int)) : evFun (im_LabelsOfWord_E k) [.v T.s, .v tState, .v T.s] (.pr (.v T.s) (.pr (.v T.b) .un)) Tryd.f27 (x0, x1, x2, ()) = im_LabelsOfWord_s k (im_LabelsOfWord_l6_e k k) x0 x1 x2 := by kernel_rfl
theorem im_LabelsOfWord_ev (k : Nat) (x0 : (List Int)) (x1 : tState.in) (x2 : (List Int)) : evFun (im_LabelsOfWord_E k) [.v T.s, .v tState, .v T.s] (.pr (.v T.s) (.pr (.v T.b) .un)) Tryd.f27 (x0, x1, x2, ()) = im_LabelsOfWord k x0 x1 x2 := by
  have h0 : (im_LabelsOfWord_l6_e k k) = (im_LabelsOfWord_l6 k k) := by funext y0 y1 y2 y3; exact im_LabelsOfWord_l6_ev k k y0 y1 y2 y3
  rw [im_LabelsOfWord_st, h0]; rfl
theorem im_LabelsOfWord_c (k : Nat) : Contract Tryd.prog 27 (im_LabelsOfWord_O k) :=
  fun_sound (c := bodyOf Tryd.f27) (tab_ok Tryd_tab_ok rfl rfl) (orc_cons (im_board_c k) (orc_cons (im_statesAlong_c k) (orc_cons (im_grid_put_c k) (orc_cons (im_grid_text_c k) (orc_cons (im_grid_label_c k) orc_nil))))) Tryd.func27 (by kernel_rfl) rfl (by kernel_rfl) (by decide) rfl rfl (by kernel_rfl) (by kernel_rfl) (by kernel_rfl) (fun x _ h => (im_LabelsOfWord_ev k x.1 x.2.1 x.2.2.1).trans h)
end Ev
/- Plain laws: digits put on cells along the states. -/
namespace Ev
open Go
def dg (n : Int) : Int := IntKind.u8.wrap (IntKind.i64.wrap (48 + n))
theorem dg_is {n : Int} (h : dgt n) : dg n = 48 + n := by
  obtain ⟨h1, h2⟩ := h
  obtain ⟨m, rfl⟩ := Int.eq_ofNat_of_zero_le h1
  have hm : m ≤ 9 := by omega
  match m, hm with
  | 0, _ => rfl
  | 1, _ => rfl
  | 2, _ => rfl
  | 3, _ => rfl
  | 4, _ => rfl
  | 5, _ => rfl
  | 6, _ => rfl
  | 7, _ => rfl
  | 8, _ => rfl
  | 9, _ => rfl
def putG (g : List (List Int)) (y x : Nat) (v : Int) : List (List Int) := g.set y ((g.getD y []).set x v)
theorem putG_flat {w : Nat} (v : Int) : ∀ (g : List (List Int)) (y x : Nat), (∀ r ∈ g, r.length = w) → x < w → y < g.length → (putG g y x v).flatten = g.flatten.set (y * w + x) v
  | [], _, _, _, _, h => by cases h
  | r :: g, 0, x, hr, hx, _ => by
    have := hr r List.mem_cons_self
    show (r.set x v :: g).flatten = _
    rw [List.flatten_cons, List.flatten_cons, Nat.zero_mul, Nat.zero_add, List.set_append_left _ _ (by omega)]
  | r :: g, y + 1, x, hr, hx, hy => by
    have h1 := hr r List.mem_cons_self
    have ih := putG_flat v g y x (fun q hq => hr q (List.mem_cons_of_mem _ hq)) hx (by simpa using hy)
    show (r :: putG g y x v).flatten = _
    have e : (y + 1) * w + x = r.length + (y * w + x) := by rw [h1, Nat.add_mul]; omega
    rw [List.flatten_cons, List.flatten_cons, ih, e, List.set_append_right _ _ (by omega), Nat.add_sub_cancel_left]
theorem Rc.putG {g : List (List Int)} {w h : Nat} (r : Rc g w h) (y x : Nat) (v : Int) (hy : y < h) : Rc (Ev.putG g y x v) w h := by
  have hl := r.len
  refine ⟨by unfold Ev.putG; rw [List.length_set]; exact hl, fun q hq => ?_, r.w1, r.w7, r.h1, r.h7⟩
  rcases List.mem_or_eq_of_mem_set hq with hq | hq
  · exact r.row q hq
  · rw [hq, List.length_set]; exact r.rowj hy
theorem put_is (k : Nat) {g : List (List Int)} {w h : Nat} (r : Rc g w h) {x y : Int} (hx : rngI x w) (hy : rngI y h) (n : Int) : im_grid_put k g x y n = some (putG g y.toNat x.toNat (dg n)) := by
  obtain ⟨x1, x2⟩ := hx
  obtain ⟨y1, y2⟩ := hy
  have hl := r.len; have w7 := r.w7; have h7 := r.h7; have h1 := r.h1
  have hrow := r.rowj (j := y.toNat) (by omega)
  have hc : slices_Clone_impl_grid_string k g = some g := by
    cases g with
    | nil => simp at hl; omega
    | cons a g =>
      show (if ([] : List (List Int)).length + (a :: g).length ≤ 17179869184 then some (([] : List (List Int)) ++ a :: g) else none) = _
      rw [if_pos (by simp only [List.length_nil]; omega)]; rfl
  show (slices_Clone_impl_grid_string k g).bind _ = _
  rw [hc, Option.bind_some, inb_eq (by omega), if_pos (by omega), inb_eq (by omega), inb_eq (by omega)]
  rfl
theorem alo_ok {g : List (List Int)} : ∀ (t : List Int) (s : tState.in), flo g s = true → dieOk s.2.2.1 = true → ∀ e ∈ alo g s t, flo g e = true ∧ dieOk e.2.2.1 = true
  | [], s, h1, h2, e, he => by
    rw [show alo g s [] = [s] from rfl, List.mem_singleton] at he
    subst he; exact ⟨h1, h2⟩
  | c :: t, s, h1, h2, e, he => by
    unfold alo at he
    rcases List.mem_cons.1 he with rfl | he
    · exact ⟨h1, h2⟩
    · split at he
      · rename_i hf
        exact alo_ok t (rol s c) hf (dieOk_rol _ _ h2) e he
      · cases he
def prt : List (List Int) → List tState.in → List (List Int)
  | G, [] => G
  | G, s :: l => prt (putG G (s.2.1 : Int).toNat (s.1 : Int).toNat (dg s.2.2.1.2.2.2.2.2.1)) l
theorem idx_is {w h : Nat} (w7 : w ≤ 7) (h7 : h ≤ 7) {x y : Int} (hx : rngI x w) (hy : rngI y h) : IntKind.i64.wrap (IntKind.i64.wrap (y * (w : Int)) + x) = ((y.toNat * w + x.toNat : Nat) : Int) := by
  obtain ⟨⟨p1, p2⟩, p3, p4⟩ := pos_bd w7 h7 hy hx
  obtain ⟨x1, x2⟩ := hx
  obtain ⟨y1, y2⟩ := hy
  obtain ⟨x, rfl⟩ := Int.eq_ofNat_of_zero_le x1
  obtain ⟨y, rfl⟩ := Int.eq_ofNat_of_zero_le y1
  unfold posN at p3 p4
  rw [wr (x := (y : Int) * (w : Int)) (by omega), wr (by omega)]
  simp
theorem prts_sp (k : Nat) (hk : 2097152 ≤ k) {w h : Nat} (g0 : List (List Int)) (l : List tState.in) (hl : l.length ≤ 100) (hok : ∀ s ∈ l, rngI s.2.1 h ∧ rngI s.1 w) : ∀ (d n j : Nat) (G : List (List Int)), Rc G w h → l.length = j + d → d < n →
    sp_PrintsAlong_l7 k n (gr g0 w h) G.flatten l (l.length : Int) (j : Int) = some (jn (prt G (l.drop j)), true, ())
  | 0, n + 1, j, G, r, hj, _ => by
    show sp_PrintsAlong_l7s k _ _ _ _ _ _ = _
    unfold sp_PrintsAlong_l7s
    rw [if_neg (ndt (by omega)), List.drop_of_length_le (by omega)]
    show (Option.bind (sp_boText k (gr G w h)) _).bind _ = _
    rw [boText_is k hk r]; rfl
  | d + 1, n + 1, j, G, r, hj, hn => by
    have hfl := r.flat
    have hm := hok _ (gmem (z := sz0) l (j := j) (by omega))
    have e1 : l.getD (j : Int).toNat ((0 : Int), (0 : Int), ((0 : Int), (0 : Int), (0 : Int), (0 : Int), (0 : Int), (0 : Int), ()), ()) = l.getD j sz0 := rfl
    have ei : IntKind.i64.wrap (IntKind.i64.wrap ((l.getD j sz0).2.1 * (gr g0 w h).1) + (l.getD j sz0).1) = _ := idx_is r.w7 r.h7 hm.2 hm.1
    obtain ⟨⟨y1, y2⟩, x1, x2⟩ := hm
    have hyl : (l.getD j sz0).2.1.toNat < h := by omega
    have hxl : (l.getD j sz0).1.toNat < w := by omega
    have r' := r.putG (l.getD j sz0).2.1.toNat (l.getD j sz0).1.toNat (dg (l.getD j sz0).2.2.1.2.2.2.2.2.1) hyl
    have ef := putG_flat (dg (l.getD j sz0).2.2.1.2.2.2.2.2.1) G (l.getD j sz0).2.1.toNat (l.getD j sz0).1.toNat r.row hxl (by rw [r.len]; exact hyl)
    show sp_PrintsAlong_l7s k _ _ _ _ _ _ = _
    unfold sp_PrintsAlong_l7s
    rw [if_pos (dt (by omega)), inb_eq (by omega), e1, ei, wr (x := (j : Int) + 1) (by omega)]
    have hb : (l.getD j sz0).2.1.toNat * w + (l.getD j sz0).1.toNat < G.flatten.length := by
      rw [hfl.1]
      have : ((l.getD j sz0).2.1.toNat + 1) * w ≤ h * w := Nat.mul_le_mul_right w (by omega)
      rw [Nat.add_mul, Nat.mul_comm h w] at this
      omega
    rw [inb_eq (by omega)]
    have es : G.flatten.set (((l.getD j sz0).2.1.toNat * w + (l.getD j sz0).1.toNat : Nat) : Int).toNat (IntKind.u8.wrap (IntKind.i64.wrap (48 + (l.getD j sz0).2.2.1.2.2.2.2.2.1))) = (putG G (l.getD j sz0).2.1.toNat (l.getD j sz0).1.toNat (dg (l.getD j sz0).2.2.1.2.2.2.2.2.1)).flatten := ef.symm
    rw [es, getD_drop l j sz0 (by omega)]
    exact prts_sp k hk g0 l hl hok d n (j + 1) _ r' (by omega) (by omega)
theorem prts_im (k : Nat) {w h : Nat} (l : List tState.in) (hl : l.length ≤ 100) (hok : ∀ s ∈ l, rngI s.2.1 h ∧ rngI s.1 w) : ∀ (d n j : Nat) (G : List (List Int)), Rc G w h → l.length = j + d → d < n →
    im_PrintsAlong_l6 k n G l (l.length : Int) (j : Int) = some (jn (prt G (l.drop j)), true, ())
  | 0, n + 1, j, G, r, hj, _ => by
    show im_PrintsAlong_l6s k _ _ _ _ _ = _
    unfold im_PrintsAlong_l6s
    rw [if_neg (ndt (by omega)), List.drop_of_length_le (by omega), text_is k r]; rfl
  | d + 1, n + 1, j, G, r, hj, hn => by
    have hm := hok _ (gmem (z := sz0) l (j := j) (by omega))
    have e1 : l.getD (j : Int).toNat ((0 : Int), (0 : Int), ((0 : Int), (0 : Int), (0 : Int), (0 : Int), (0 : Int), (0 : Int), ()), ()) = l.getD j sz0 := rfl
    have hp := put_is k r hm.2 hm.1 (l.getD j sz0).2.2.1.2.2.2.2.2.1
    obtain ⟨⟨y1, y2⟩, x1, x2⟩ := hm
    have r' := r.putG (l.getD j sz0).2.1.toNat (l.getD j sz0).1.toNat (dg (l.getD j sz0).2.2.1.2.2.2.2.2.1) (by omega)
    show im_PrintsAlong_l6s k _ _ _ _ _ = _
    unfold im_PrintsAlong_l6s
    rw [if_pos (dt (by omega)), inb_eq (by omega), e1, hp, Option.bind_some, wr (by omega), getD_drop l j sz0 (by omega)]
    exact prts_im k l hl hok d n (j + 1) _ r' (by omega) (by omega)
end Ev
/- loop.example/g01207/laws.FnExactPrintsAlong -/
namespace Ev
open Go Go.Proofs
/-! laws.FnExactPrintsAlong -/
@[reducible] def la_FnExactPrintsAlong_j3_L : List (Nat × Sh) := [(0, (.v T.s)), (2, (.v T.s)), (4, (.bx 25 (.v tState)))]
def la_FnExactPrintsAlong_j3s (k : Nat) (x0 : (List Int)) (x2 : (List Int)) (x4 : tState.in) : Option Bool :=
  if (decide ((1048576 : Int) < (x2.length : Int))) = true then
    some true
  else
    (la_toState k x4).bind fun r1 =>
    (sp_PrintsAlong k x0 r1 x2).bind fun r2 =>
    (la_toState k x4).bind fun r3 =>
    (im_PrintsAlong k x0 r3 x2).bind fun r4 =>
    if (!decide (r4.1 = r2.1)) = true then
      some false
    else
      if (!(decide (r4.2.1 = r2.2.1))) = true then
        some false
      else
        some true
def la_FnExactPrintsAlong_j3 (k : Nat)  : Nat → (List Int) → (List Int) → tState.in → Option Bool
  | 0, _, _, _ => none
  | _ + 1, x0, x2, x4 => la_FnExactPrintsAlong_j3s k x0 x2 x4
def la_FnExactPrintsAlong_s (_k : Nat) (c_j3 : (List Int) → (List Int) → tState.in → Option Bool) (x0 : (List Int)) (x1 : tState.in) (x2 : (List Int)) : Option Bool :=
  if (decide ((1048576 : Int) < (x0.length : Int))) = true then
    some true
  else
    c_j3 x0 x2 x1
def la_FnExactPrintsAlong (k : Nat) (x0 : (List Int)) (x1 : tState.in) (x2 : (List Int)) : Option Bool := la_FnExactPrintsAlong_s k (la_FnExactPrintsAlong_j3 k k) x0 x1 x2
noncomputable def la_FnExactPrintsAlong_O (k : Nat) : Orc := { ps := [.v T.s, .v tState, .v T.s], rt := (.v T.b), F := fun x => la_FnExactPrintsAlong k x.1 x.2.1 x.2.2.1 }
noncomputable def la_FnExactPrintsAlong_E (k : Nat) : Env := { ty := tabTy Tryd_tab, ds := tabDs Tryd_tab, rounds := k, nt := 41, orc := fun g => if Nat.beq g 23 = true then some (sp_PrintsAlong_O k) else (if Nat.beq g 24 = true then some (la_toState_O k) else (if Nat.beq g 25 = true then some (im_PrintsAlong_O k) else (none))), lp := fun _ => none, ct := fun i => if Nat.beq i 3 = true then some la_FnExactPrintsAlong_j3_L else (none), plan := fun _ => none }
noncomputable def la_FnExactPrintsAlong_fin (k : Nat) : Kn Bool := finish (la_FnExactPrintsAlong_E k) [.v T.s, .v tState, .v T.s] (.v T.b) Tryd.f5.results.toList
noncomputable def la_FnExactPrintsAlong_j3_e (k : Nat)  (n : Nat) (x0 : (List Int)) (x2 : (List Int)) (x4 : tState.in) : Option Bool := joinF (la_FnExactPrintsAlong_E k) la_FnExactPrintsAlong_j3_L (ev (la_FnExactPrintsAlong_E k) (sub (bodyOf Tryd.f5) [.r, .r])) (kont (la_FnExactPrintsAlong_E k) (bodyOf Tryd.f5) [.r, .r] [] (la_FnExactPrintsAlong_fin k)) n (x0, x2, x4, ())
theorem la_FnExactPrintsAlong_j3_z (k : Nat)  (x0 : (List Int)) (x2 : (List Int)) (x4 : tState.in) : la_FnExactPrintsAlong_j3_e k 0 x0 x2 x4 = none := by kernel_rfl
theorem la_FnExactPrintsAlong_j3_st (k : Nat)  (n : Nat) (x0 : (List Int)) (x2 : (List Int)) (x4 : tState.in) : la_FnExactPrintsAlong_j3_e k (n + 1) x0 x2 x4 = la_FnExactPrintsAlong_j3s k x0 x2 x4 := by kernel_rfl
theorem la_FnExactPrintsAlong_j3_ev (k : Nat)  : ∀ (n : Nat) (x0 : (List Int)) (x2 : (List Int)) (x4 : tState.in), la_FnExactPrintsAlong_j3_e k n x0 x2 x4 = la_FnExactPrintsAlong_j3 k n x0 x2 x4
  | 0, x0, x2, x4 => la_FnExactPrintsAlong_j3_z k x0 x2 x4
  | n + 1, x0, x2, x4 => by
    skip
    rw [la_FnExactPrintsAlong_j3_st]; rfl
theorem la_FnExactPrintsAlong_st (k : Nat) (x0 : (List Int)) (x1 : tState.in) (x2 : (List Int)) : evFun (la_FnExactPrintsAlong_E k) [.v T.s, .v tState, .v T.s] (.v T.b) Tryd.f5 (x0, x1, x2, ()) = la_FnExactPrintsAlong_s k (la_FnExactPrintsAlong_j3_e k k) x0 x1 x2 := by kernel_rfl
theorem la_FnExactPrintsAlong_ev (k : Nat) (x0 : (List Int)) (x1 : tState.in) (x2 : (List Int)) : evFun (la_FnExactPrintsAlong_E k) [.v T.s, .v tState, .v T.s] (.v T.b) Tryd.f5 (x0, x1, x2, ()) = la_FnExactPrintsAlong k x0 x1 x2 := by
  have h0 : (la_FnExactPrintsAlong_j3_e k k) = (la_FnExactPrintsAlong_j3 k k) := by funext y0 y1 y2; exact la_FnExactPrintsAlong_j3_ev k k y0 y1 y2
  rw [la_FnExactPrintsAlong_st, h0]; rfl
theorem la_FnExactPrintsAlong_c (k : Nat) : Contract Tryd.prog 5 (la_FnExactPrintsAlong_O k) :=
  fun_sound (c := bodyOf Tryd.f5) (tab_ok Tryd_tab_ok rfl rfl) (orc_cons (sp_PrintsAlong_c k) (orc_cons (la_toState_c k) (orc_cons (im_PrintsAlong_c k) orc_nil))) Tryd.func5 (by kernel_rfl) rfl (by kernel_rfl) (by decide) rfl rfl (by kernel_rfl) (by kernel_rfl) (by kernel_rfl) (fun x _ h => (la_FnExactPrintsAlong_ev k x.1 x.2.1 x.2.2.1).trans h)
end Ev
/- The plain law of PrintsAlong. -/
namespace Ev
open Go Go.Proofs
/-- What a board, a state and a word come to. -/
theorem along_is (k : Nat) (hk : 2097152 ≤ k) (b : List Int) (st : tState.in) (s : List Int) (hs : b.length ≤ 1048576) :
    (∃ w h, Rc (spl b) w h ∧ im_board k b = some (spl b, true, ()) ∧ sp_boRead k b = some (gr (spl b) w h, true, ()) ∧ (alo (spl b) st s).length ≤ 61 ∧ (∀ e ∈ alo (spl b) st s, flo (spl b) e = true ∧ dieOk e.2.2.1 = true) ∧ im_statesAlong k b st s = some (alo (spl b) st s, true, ()) ∧ sp_boWay k b st s = some (alo (spl b) st s, true, ())) ∨
    ∃ l, im_statesAlong k b st s = some (l, false, ()) ∧ sp_boWay k b st s = some ([], false, ()) := by
  rcases asked_is k hk b hs st with ⟨w, h, bd, e1, e2, h1, h2⟩ | ⟨g, -, h1, h2⟩
  · have hw := way_is k hk b st s (spl b) (spl b) w h (stOk (spl b) st) (fun _ => bd.rc)
    cases ho : stOk (spl b) st with
    | true =>
      rw [ho] at hw
      have ho' := ho
      unfold stOk at ho'
      rw [Bool.and_eq_true] at ho'
      rcases hw (by rw [h1, ho]; rfl) (by rw [h2, ho]; rfl) with ⟨-, a2, a3, a4, a5⟩ | ⟨-, l, a4, a5⟩
      · have := (of_decide_eq_true a2).1
        exact .inl ⟨w, h, bd.rc, e1, e2, by omega, alo_ok s st ho'.2 ho'.1, a4, a5⟩
      · exact .inr ⟨l, a4, a5⟩
    | false =>
      refine .inr ⟨[], ?_, ?_⟩
      · show (im_onBoard k b st).bind _ = _
        rw [h1, ho]; rfl
      · show (sp_boAsked k b st).bind _ = _
        rw [h2, ho]; rfl
  · refine .inr ⟨[], ?_, ?_⟩
    · show (im_onBoard k b st).bind _ = _
      rw [h1]; rfl
    · show (sp_boAsked k b st).bind _ = _
      rw [h2]; rfl
theorem printsAlong_is (k : Nat) (hk : 2097152 ≤ k) (b : List Int) (st : tState.in) (s : List Int) (hs : b.length ≤ 1048576) : ∃ r, sp_PrintsAlong k b st s = some r ∧ im_PrintsAlong k b st s = some r := by
  have d1 : sp_PrintsAlong k b st s = (sp_boWay k b st s).bind _ := rfl
  have d2 : im_PrintsAlong k b st s = (im_statesAlong k b st s).bind _ := rfl
  rw [d1, d2]
  rcases along_is k hk b st s hs with ⟨w, h, r, e1, e2, hl, hok, h1, h2⟩ | ⟨l, h1, h2⟩
  · have hok' : ∀ e ∈ alo (spl b) st s, rngI e.2.1 h ∧ rngI e.1 w := fun e he => flo_in r (hok e he).1
    have hfl := r.flat
    have p1 := prts_sp k hk (spl b) (alo (spl b) st s) (by omega) hok' (alo (spl b) st s).length k 0 (spl b) r (by omega) (by omega)
    have p2 := prts_im k (alo (spl b) st s) (by omega) hok' (alo (spl b) st s).length k 0 (spl b) r (by omega) (by omega)
    have el : (gr (spl b) w h).2.2.1.length = w * h := hfl.1
    rw [h1, h2, Option.bind_some, Option.bind_some, if_neg (show ¬ ((!true) = true) by decide), if_neg (show ¬ ((!true) = true) by decide), e1, e2, Option.bind_some, Option.bind_some, if_pos (by rw [el]; simp only [List.length_nil]; omega)]
    exact ⟨_, p1, p2⟩
  · rw [h1, h2]; exact ⟨_, rfl, rfl⟩
theorem law_PrintsAlong (k : Nat) (hk : 2097152 ≤ k) (b : List Int) (st : tState.in) (s : List Int) : la_FnExactPrintsAlong k b st s = some true := by
  show (if decide ((1048576 : Int) < (b.length : Int)) = true then some true else la_FnExactPrintsAlong_j3 k k b s st) = _
  by_cases hy : (1048576 : Int) < (b.length : Int)
  · rw [if_pos (dt hy)]
  · rw [if_neg (ndt hy)]
    obtain ⟨j, rfl⟩ : ∃ j, k = j + 1 := ⟨k - 1, by omega⟩
    show (if decide ((1048576 : Int) < (s.length : Int)) = true then some true else _) = _
    by_cases hz : (1048576 : Int) < (s.length : Int)
    · rw [if_pos (dt hz)]
    · rw [if_neg (ndt hz)]
      obtain ⟨r, e1, e2⟩ := printsAlong_is (j + 1) hk b st s (by omega)
      show ((sp_PrintsAlong (j + 1) b st s).bind fun r2 => (im_PrintsAlong (j + 1) b st s).bind fun r4 => _) = _
      rw [e1, e2, Option.bind_some, Option.bind_some, if_neg (nnd rfl), if_neg (nnd rfl)]
theorem pure_FnExactPrintsAlong (b : List Int) (st : tState.in) (s : List Int) (_ : T.s.InR b) (_ : tState.InR st) (_ : T.s.InR s) : ∃ k, la_FnExactPrintsAlong k b st s = some true := ⟨2097152, law_PrintsAlong 2097152 (Nat.le_refl _) b st s⟩
end Ev
