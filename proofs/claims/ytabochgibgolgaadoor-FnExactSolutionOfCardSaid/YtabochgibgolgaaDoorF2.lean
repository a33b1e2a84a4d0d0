/-
  What is proved here: the functions that the law reaches come to the printed functions, and plain facts of these. Conditions: those that each theorem names; none beyond.
-/
import Derived.Test.YtabochgibgolgaaDoorF1
/- Plain laws: all states that rolls reach, as both sides find them. -/
namespace Ev
open Go

theorem dieEq (x y : tDie.in) : tDie.eqv x y = true ↔ x = y := by
  obtain ⟨a, b, c, d, e, f, u⟩ := x
  obtain ⟨a', b', c', d', e', f', u'⟩ := y
  show (decide (a = a') && (decide (b = b') && (decide (c = c') && (decide (d = d') && (decide (e = e') && (decide (f = f') && true)))))) = true ↔ _
  simp
theorem stEq (x y : tState.in) : tState.eqv x y = true ↔ x = y := by
  obtain ⟨a, b, c, u⟩ := x
  obtain ⟨a', b', c', u'⟩ := y
  show (decide (a = a') && (decide (b = b') && (tDie.eqv c c' && true))) = true ↔ _
  rw [Bool.and_eq_true, Bool.and_eq_true, Bool.and_eq_true, dieEq]
  simp
/-- A state that is found: by which one before, by what direction, and how far it is. -/
structure En where
  s : tState.in
  b : Int
  d : Int
  f : Int
def e0 : En := ⟨sz0, 0, 0, 0⟩
def chrD (d : Int) : Int := ([110, 101, 115, 119] : List Int).getD d.toNat 0
theorem chrD_dir {d : Nat} (h : d < 4) : isDir (chrD (d : Int)) ∧ dirI (chrD (d : Int)) = (d : Int) := by
  match d, h with
  | 0, _ => exact ⟨by decide, rfl⟩
  | 1, _ => exact ⟨by decide, rfl⟩
  | 2, _ => exact ⟨by decide, rfl⟩
  | 3, _ => exact ⟨by decide, rfl⟩
def addE (g : List (List Int)) (L : List En) (q d : Nat) : List En :=
  if flo g (rol (L.getD q e0).s (chrD (d : Int))) = true ∧ rol (L.getD q e0).s (chrD (d : Int)) ∉ L.map En.s then L ++ [⟨rol (L.getD q e0).s (chrD (d : Int)), (q : Int), (d : Int), (L.getD q e0).f + 1⟩] else L
def adds (g : List (List Int)) (q : Nat) : Nat → Nat → List En → List En
  | 0, _, L => L
  | m + 1, d, L => adds g q m (d + 1) (addE g L q d)
structure Inv (g : List (List Int)) (s0 : tState.in) (L : List En) : Prop where
  nd : (L.map En.s).Nodup
  gd : ∀ e ∈ L, flo g e.s = true ∧ dieOk e.s.2.2.1 = true
  r0 : L.getD 0 e0 = ⟨s0, -1, 0, 0⟩
  ne : 0 < L.length
  fr : ∀ j, 0 < j → j < L.length → ∃ i d : Nat, (L.getD j e0).b = (i : Int) ∧ i < j ∧ (L.getD j e0).f = (L.getD i e0).f + 1 ∧ d < 4 ∧ (L.getD j e0).d = (d : Int) ∧ (L.getD j e0).s = rol (L.getD i e0).s (chrD (d : Int))
  fb : ∀ j, j < L.length → 0 ≤ (L.getD j e0).f ∧ (L.getD j e0).f ≤ (j : Int)
theorem gdl {α : Type} {z : α} (L : List α) (e : α) {j : Nat} (h : j < L.length) : (L ++ [e]).getD j z = L.getD j z := by simp [List.getD, List.getElem?_append, h]
theorem gdr {α : Type} {z : α} (L : List α) (e : α) : (L ++ [e]).getD L.length z = e := by simp [List.getD]
theorem gmem {α : Type} {z : α} (L : List α) {j : Nat} (h : j < L.length) : L.getD j z ∈ L := by rw [gd _ _ _ h]; exact List.getElem_mem h
theorem gmap {α β : Type} {z : α} (f : α → β) (L : List α) (y : β) {j : Nat} (h : j < L.length) : (L.map f).getD j y = f (L.getD j z) := by
  rw [gd _ _ _ (by simpa using h), gd _ _ _ h]; simp
def dgt (x : Int) : Prop := 0 ≤ x ∧ x ≤ 9
def rngI (x : Int) (n : Nat) : Prop := 0 ≤ x ∧ x < (n : Int)
theorem dieOk_iff (d : tDie.in) : dieOk d = true ↔ dgt d.1 ∧ dgt d.2.1 ∧ dgt d.2.2.1 ∧ dgt d.2.2.2.1 ∧ dgt d.2.2.2.2.1 ∧ dgt d.2.2.2.2.2.1 := by
  unfold dieOk faces dgt
  simp only [List.all_cons, List.all_nil, Bool.and_true, Bool.and_eq_true, decide_eq_true_eq]
theorem dieOk_rol (d : tDie.in) (c : Int) (h : dieOk d = true) : dieOk (rolD d c) = true := by
  rw [dieOk_iff] at h ⊢
  obtain ⟨h1, h2, h3, h4, h5, h6⟩ := h
  unfold rolD
  split
  · exact ⟨h4, h1, h3, h6, h5, h2⟩
  · split
    · exact ⟨h5, h2, h1, h4, h6, h3⟩
    · split
      · exact ⟨h2, h6, h3, h1, h5, h4⟩
      · exact ⟨h3, h2, h6, h4, h1, h5⟩
theorem Inv.add {g : List (List Int)} {s0 : tState.in} {L : List En} (h : Inv g s0 L) {q d : Nat} (hq : q < L.length) (hd : d < 4) : Inv g s0 (addE g L q d) ∧ L.length ≤ (addE g L q d).length := by
  unfold addE
  split
  · rename_i hc
    have hq0 := h.fb q hq
    have hgq := h.gd _ (gmem (z := e0) L hq)
    refine ⟨⟨?_, ?_, ?_, by simp, ?_, ?_⟩, by simp⟩
    · rw [List.map_append, List.nodup_append]
      refine ⟨h.nd, by simp, fun a ha b hb e => ?_⟩
      simp only [List.map_cons, List.map_nil, List.mem_singleton] at hb
      subst hb
      exact hc.2 (e ▸ ha)
    · intro e he
      rcases List.mem_append.1 he with he | he
      · exact h.gd e he
      · rw [List.mem_singleton] at he
        subst he
        exact ⟨hc.1, dieOk_rol _ _ hgq.2⟩
    · rw [gdl L _ h.ne]; exact h.r0
    · intro j hj hl
      rw [List.length_append, List.length_singleton] at hl
      by_cases hjl : j < L.length
      · obtain ⟨i, d', h1, h2, h3, h4, h5, h6⟩ := h.fr j hj hjl
        have hil : i < L.length := by omega
        exact ⟨i, d', by rw [gdl L _ hjl]; exact h1, h2, by rw [gdl L _ hjl, gdl L _ hil]; exact h3, h4, by rw [gdl L _ hjl]; exact h5, by rw [gdl L _ hjl, gdl L _ hil]; exact h6⟩
      · obtain rfl : j = L.length := by omega
        exact ⟨q, d, by rw [gdr], hq, by rw [gdr, gdl L _ hq], hd, by rw [gdr], by rw [gdr, gdl L _ hq]⟩
    · intro j hl
      rw [List.length_append, List.length_singleton] at hl
      by_cases hjl : j < L.length
      · rw [gdl L _ hjl]; exact h.fb j hjl
      · obtain rfl : j = L.length := by omega
        rw [gdr]
        show 0 ≤ (L.getD q e0).f + 1 ∧ (L.getD q e0).f + 1 ≤ _
        omega
  · exact ⟨h, Nat.le_refl _⟩
theorem Inv.adds {g : List (List Int)} {s0 : tState.in} {q : Nat} : ∀ (m d : Nat) (L : List En), Inv g s0 L → q < L.length → d + m = 4 → Inv g s0 (adds g q m d L) ∧ L.length ≤ (adds g q m d L).length
  | 0, _, L, h, _, _ => ⟨h, Nat.le_refl _⟩
  | m + 1, d, L, h, hq, hm => by
    obtain ⟨h1, h2⟩ := h.add hq (d := d) (by omega)
    obtain ⟨h3, h4⟩ := Inv.adds (q := q) m (d + 1) (addE g L q d) h1 (by omega) (by omega)
    exact ⟨h3, Nat.le_trans h2 h4⟩

/-! ### Numbers of states -/
def posN (w : Nat) (x y : Int) : Int := y * (w : Int) + x
def codeN (p a b c d e f : Int) : Int := 10 * (10 * (10 * (10 * (10 * (10 * p + a) + b) + c) + d) + e) + f
def codeP (w : Nat) (s : tState.in) : Int := codeN (posN w s.1 s.2.1) s.2.2.1.1 s.2.2.1.2.1 s.2.2.1.2.2.1 s.2.2.1.2.2.2.1 s.2.2.1.2.2.2.2.1 s.2.2.1.2.2.2.2.2.1
theorem flo_in {g : List (List Int)} {w h : Nat} (r : Rc g w h) {s : tState.in} (hf : flo g s = true) : rngI s.2.1 h ∧ rngI s.1 w := by
  have h1 := of_decide_eq_true hf
  unfold cell at h1
  rw [r.row0, r.len] at h1
  split at h1
  · assumption
  · cases h1
theorem pos_bd {w h : Nat} (w7 : w ≤ 7) (h7 : h ≤ 7) {x y : Int} (hy : rngI y h) (hx : rngI x w) : (0 ≤ y * (w : Int) ∧ y * (w : Int) ≤ 48) ∧ 0 ≤ posN w x y ∧ posN w x y ≤ 48 := by
  obtain ⟨a1, a2⟩ := hy
  obtain ⟨b1, b2⟩ := hx
  obtain ⟨y, rfl⟩ := Int.eq_ofNat_of_zero_le a1
  have : (y + 1) * w ≤ 7 * 7 := Nat.mul_le_mul (by omega) w7
  rw [Nat.add_mul] at this
  unfold posN
  rw [mulI]
  omega
theorem pos_inj {w : Nat} {x y x' y' : Int} (hx : rngI x w) (hx' : rngI x' w) (he : posN w x y = posN w x' y') : x = x' ∧ y = y' := by
  obtain ⟨b1, b2⟩ := hx
  obtain ⟨c1, c2⟩ := hx'
  unfold posN at he
  have ey : y = y' := by
    rcases Int.lt_trichotomy y y' with q | q | q
    · have := Int.mul_le_mul_of_nonneg_right (show y + 1 ≤ y' by omega) (show (0 : Int) ≤ (w : Int) by omega)
      rw [Int.add_mul] at this
      omega
    · exact q
    · have := Int.mul_le_mul_of_nonneg_right (show y' + 1 ≤ y by omega) (show (0 : Int) ≤ (w : Int) by omega)
      rw [Int.add_mul] at this
      omega
  subst ey
  exact ⟨by omega, rfl⟩
theorem codeN_bd {p a b c d e f : Int} (hp : 0 ≤ p ∧ p ≤ 48) (h1 : dgt a) (h2 : dgt b) (h3 : dgt c) (h4 : dgt d) (h5 : dgt e) (h6 : dgt f) : 0 ≤ codeN p a b c d e f ∧ codeN p a b c d e f < 49000000 := by
  unfold dgt at *
  unfold codeN
  omega
theorem codeN_inj {p a b c d e f p' a' b' c' d' e' f' : Int} (h1 : dgt a) (h2 : dgt b) (h3 : dgt c) (h4 : dgt d) (h5 : dgt e) (h6 : dgt f) (k1 : dgt a') (k2 : dgt b') (k3 : dgt c') (k4 : dgt d') (k5 : dgt e') (k6 : dgt f')
    (he : codeN p a b c d e f = codeN p' a' b' c' d' e' f') : p = p' ∧ a = a' ∧ b = b' ∧ c = c' ∧ d = d' ∧ e = e' ∧ f = f' := by
  unfold dgt at *
  unfold codeN at he
  have e6 : f = f' := by omega
  have e5 : e = e' := by omega
  have e4 : d = d' := by omega
  have e3 : c = c' := by omega
  have e2 : b = b' := by omega
  have e1 : a = a' := by omega
  exact ⟨by omega, e1, e2, e3, e4, e5, e6⟩
theorem code_bd {g : List (List Int)} {w h : Nat} (r : Rc g w h) {s : tState.in} (hf : flo g s = true) (hd : dieOk s.2.2.1 = true) : 0 ≤ codeP w s ∧ codeP w s < 49000000 := by
  obtain ⟨a1, a2⟩ := flo_in r hf
  obtain ⟨h1, h2, h3, h4, h5, h6⟩ := (dieOk_iff _).1 hd
  exact codeN_bd (pos_bd r.w7 r.h7 a1 a2).2 h1 h2 h3 h4 h5 h6
theorem code_inj {g : List (List Int)} {w h : Nat} (r : Rc g w h) {s t : tState.in} (hf : flo g s = true) (hd : dieOk s.2.2.1 = true) (hf' : flo g t = true) (hd' : dieOk t.2.2.1 = true) (he : codeP w s = codeP w t) : s = t := by
  obtain ⟨_, a2⟩ := flo_in r hf
  obtain ⟨_, a2'⟩ := flo_in r hf'
  obtain ⟨h1, h2, h3, h4, h5, h6⟩ := (dieOk_iff _).1 hd
  obtain ⟨h1', h2', h3', h4', h5', h6'⟩ := (dieOk_iff _).1 hd'
  obtain ⟨ep, e1, e2, e3, e4, e5, e6⟩ := codeN_inj h1 h2 h3 h4 h5 h6 h1' h2' h3' h4' h5' h6' he
  obtain ⟨ex, ey⟩ := pos_inj a2 a2' ep
  obtain ⟨sx, sy, ⟨s1, s2, s3, s4, s5, s6, su⟩, su2⟩ := s
  obtain ⟨tx, ty, ⟨t1, t2, t3, t4, t5, t6, tu⟩, tu2⟩ := t
  simp only at ex ey e1 e2 e3 e4 e5 e6
  subst ex ey e1 e2 e3 e4 e5 e6
  rfl
theorem code_step (k n : Nat) (out : Int) (l : List Int) (j : Nat) (f : Int) (hl : l.length = 6) (hj : j < 6) (hf : l.getD j 0 = f) (h0 : 0 ≤ out ∧ out ≤ 100000000) (h1 : 0 ≤ f ∧ f ≤ 9) :
    sp_wyCode_l3 k (n + 1) out l 6 (j : Int) = sp_wyCode_l3 k n (10 * out + f) l 6 ((j + 1 : Nat) : Int) := by
  show sp_wyCode_l3s k _ _ _ _ _ = _
  unfold sp_wyCode_l3s
  have e1 : l.getD (j : Int).toNat 0 = f := hf
  rw [if_pos (dt (by omega)), inb_eq (by omega), e1, wr (x := 10 * out) (by omega), wr (by omega), wr (by omega)]
  rfl
theorem code_is (k : Nat) (hk : 2097152 ≤ k) {g : List (List Int)} {w h : Nat} (r : Rc g w h) {s : tState.in} (hf : flo g s = true) (hd : dieOk s.2.2.1 = true) : sp_wyCode k (gr g w h) s = some (codeP w s) := by
  obtain ⟨a1, a2⟩ := flo_in r hf
  obtain ⟨h1, h2, h3, h4, h5, h6⟩ := (dieOk_iff _).1 hd
  obtain ⟨⟨p1, p2⟩, p3, p4⟩ := pos_bd r.w7 r.h7 a1 a2
  obtain ⟨n, rfl⟩ : ∃ n, k = n + 7 := ⟨k - 7, by omega⟩
  have gen : ∀ (x y a b c d e f : Int), 0 ≤ y * (w : Int) ∧ y * (w : Int) ≤ 48 → 0 ≤ posN w x y ∧ posN w x y ≤ 48 → dgt a → dgt b → dgt c → dgt d → dgt e → dgt f →
      sp_wyCode_l3 (n + 7) (n + 7) (IntKind.i64.wrap (IntKind.i64.wrap (y * (w : Int)) + x)) [a, b, c, d, e, f] 6 ((0 : Nat) : Int) = some (codeN (posN w x y) a b c d e f) := by
    intro x y a b c d e f q1 q2 h1 h2 h3 h4 h5 h6
    unfold dgt at *
    have q3 : y * (w : Int) + x = posN w x y := rfl
    rw [wr (x := y * (w : Int)) (by omega), q3, wr (by omega)]
    rw [code_step _ (n + 6) _ _ 0 a rfl (by omega) rfl (by omega) h1]
    rw [code_step _ (n + 5) _ _ 1 b rfl (by omega) rfl (by omega) h2]
    rw [code_step _ (n + 4) _ _ 2 c rfl (by omega) rfl (by omega) h3]
    rw [code_step _ (n + 3) _ _ 3 d rfl (by omega) rfl (by omega) h4]
    rw [code_step _ (n + 2) _ _ 4 e rfl (by omega) rfl (by omega) h5]
    rw [code_step _ (n + 1) _ _ 5 f rfl (by omega) rfl (by omega) h6]
    show sp_wyCode_l3s (n + 7) _ _ _ _ _ = _
    unfold sp_wyCode_l3s
    rw [if_neg (ndt (by decide))]
    rfl
  exact gen s.1 s.2.1 _ _ _ _ _ _ ⟨p1, p2⟩ ⟨p3, p4⟩ h1 h2 h3 h4 h5 h6
theorem nodup_bd : ∀ (N : Nat) (l : List Int), l.Nodup → (∀ x ∈ l, 0 ≤ x ∧ x < (N : Int)) → l.length ≤ N
  | 0, l, _, h => by
    cases l with
    | nil => simp
    | cons x l => have := h x List.mem_cons_self; omega
  | N + 1, l, hn, h => by
    have h1 : (l.filter fun x => decide (x ≠ (N : Int))).length ≤ N := by
      refine nodup_bd N _ (hn.filter _) fun x hx => ?_
      rw [List.mem_filter] at hx
      have h1 := h x hx.1
      have h2 := of_decide_eq_true hx.2
      omega
    have h2 : l.length ≤ (l.filter fun x => decide (x ≠ (N : Int))).length + 1 := by
      clear h h1
      induction l with
      | nil => simp
      | cons x l ih =>
        have hn' := List.nodup_cons.1 hn
        by_cases hx : x = (N : Int)
        · subst hx
          have e : (l.filter fun x => decide (x ≠ (N : Int))) = l := List.filter_eq_self.2 fun y hy => decide_eq_true (fun q => hn'.1 (q ▸ hy))
          rw [List.filter_cons_of_neg (by simp), e]; simp
        · rw [List.filter_cons_of_pos (by simp [hx])]
          have := ih hn'.2
          simp only [List.length_cons]; omega
    omega
theorem Inv.codes {g : List (List Int)} {s0 : tState.in} {L : List En} (h : Inv g s0 L) {w hh : Nat} (r : Rc g w hh) : (L.map fun e => codeP w e.s).Nodup := by
  have hnd := h.nd
  have hgd := h.gd
  clear h
  induction L with
  | nil => simp
  | cons e L ih =>
    rw [List.map_cons, List.nodup_cons] at hnd ⊢
    refine ⟨fun q => ?_, ih hnd.2 (fun e he => hgd e (List.mem_cons_of_mem _ he))⟩
    obtain ⟨e', he', hc⟩ := List.mem_map.1 q
    have h1 := hgd e List.mem_cons_self
    have h2 := hgd e' (List.mem_cons_of_mem _ he')
    have := code_inj r h2.1 h2.2 h1.1 h1.2 hc
    exact hnd.1 (List.mem_map.2 ⟨e', he', this⟩)
theorem Inv.bd {g : List (List Int)} {s0 : tState.in} {L : List En} (h : Inv g s0 L) {w hh : Nat} (r : Rc g w hh) : L.length ≤ 49000000 := by
  have := nodup_bd 49000000 _ (h.codes r) (fun x hx => by
    obtain ⟨e, he, rfl⟩ := List.mem_map.1 hx
    have h1 := h.gd e he
    have := code_bd r h1.1 h1.2
    omega)
  simpa using this
theorem place_loop (k : Nat) (c : Int) (l : List Int) (hl : l.length ≤ 1000000000) : ∀ (d n j : Nat), l.length = j + d → d < n →
    sp_wyPlace_l2 k n c l (l.length : Int) (j : Int) = some (if fidx (fun x => decide (x = c)) (l.drop j) = -1 then -1 else (j : Int) + fidx (fun x => decide (x = c)) (l.drop j))
  | 0, n + 1, j, h, _ => by
    show sp_wyPlace_l2s k _ _ _ _ _ = _
    unfold sp_wyPlace_l2s
    rw [if_neg (ndt (by omega)), List.drop_of_length_le (by omega)]; rfl
  | d + 1, n + 1, j, h, hn => by
    show sp_wyPlace_l2s k _ _ _ _ _ = _
    unfold sp_wyPlace_l2s
    have hd := getD_drop l j 0 (by omega)
    have e1 : rdT I l (j : Int) = l.getD j 0 := rfl
    have ih := place_loop k c l hl d n (j + 1) (by omega) (by omega)
    have hg := fidx_ge (fun x => decide (x = c)) (l.drop (j + 1))
    rw [if_pos (dt (by omega)), inb_eq (by omega), e1, hd]
    unfold fidx
    by_cases hp : l.getD j 0 = c
    · rw [if_pos (dt hp), if_pos (dt hp), if_neg (by omega)]; simp
    · rw [if_neg (ndt hp), if_neg (ndt hp), wr (by omega)]
      refine (show _ = _ from ih).trans ?_
      by_cases h2 : fidx (fun x => decide (x = c)) (l.drop (j + 1)) = -1
      · rw [if_pos h2, if_pos h2, if_pos rfl]
      · rw [if_neg h2, if_neg h2, if_neg (by omega)]; congr 1; omega
theorem place_is (k : Nat) (hk : 1000000000 ≤ k) (l : List Int) (c : Int) (hl : l.length ≤ 100000000) : sp_wyPlace k l c = some (fidx (fun x => decide (x = c)) l) := by
  refine (place_loop k c l (by omega) l.length k 0 (by omega) (by omega)).trans ?_
  rw [List.drop_zero]
  by_cases h : fidx (fun x => decide (x = c)) l = -1
  · rw [if_pos h, h]
  · rw [if_neg h]; simp

/-! ### The program's search -/
def pl : Nat → List En → List (tState.in × Int)
  | _, [] => []
  | i, e :: L => (e.s, (i : Int)) :: pl (i + 1) L
theorem lk_cons (p : tState.in × Int) (l : List (tState.in × Int)) (t : tState.in) : lk tState I (p :: l) t = if tState.eqv t p.1 = true then some p.2 else lk tState I l t := by
  unfold lk
  rw [List.find?_cons]
  cases tState.eqv t p.1 <;> rfl
theorem lk_pl (t : tState.in) : ∀ (L : List En) (i : Nat), (lk tState I (pl i L) t).isSome = true ↔ t ∈ L.map En.s
  | [], _ => by simp [lk, pl]
  | e :: L, i => by
    have ih := lk_pl t L (i + 1)
    show (lk tState I ((e.s, (i : Int)) :: pl (i + 1) L) t).isSome = true ↔ _
    rw [lk_cons, List.map_cons, List.mem_cons]
    by_cases h : t = e.s
    · rw [if_pos ((stEq _ _).2 h)]; simp [h]
    · rw [if_neg (fun q => h ((stEq _ _).1 q)), ih]
      simp [h]
theorem up_pl (t : tState.in) (n : Int) : ∀ (L : List En) (i : Nat), t ∉ L.map En.s → up tState I (pl i L) t n = pl i L ++ [(t, n)]
  | [], _, _ => rfl
  | e :: L, i, h => by
    rw [List.map_cons, List.mem_cons] at h
    have ih := up_pl t n L (i + 1) (fun q => h (.inr q))
    show (if tState.eqv t e.s = true then _ else _) = _
    rw [if_neg (fun q => h (.inl ((stEq _ _).1 q)))]
    show _ :: up tState I (pl (i + 1) L) t n = _
    rw [ih]; rfl
theorem pl_app (e : En) : ∀ (L : List En) (i : Nat), pl i (L ++ [e]) = pl i L ++ [(e.s, ((i + L.length : Nat) : Int))]
  | [], _ => rfl
  | x :: L, i => by
    have ih := pl_app e L (i + 1)
    show _ :: pl (i + 1) (L ++ [e]) = _
    rw [ih]
    have : i + 1 + L.length = i + (x :: L).length := by simp; omega
    rw [this]; rfl
def chE (e : En) : Int := if e.b < 0 then 0 else chrD e.d
def enc (L : List En) : treach.in := (L.map En.s, L.map En.b, L.map chE, L.map En.f, pl 0 L, ())
theorem re_in (k : Nat) {g : List (List Int)} {w h : Nat} (r : Rc g w h) {s0 : tState.in} (mv : tState.in × (Int × Unit) → Option (tState.in × (Bool × Unit))) (hmv : ∀ s c, mv (s, c, ()) = some (rol s c, flo g (rol s c), ())) (g3 : (tState.in × (Int × Unit) → Option (tState.in × (Bool × Unit))) → ((List tState.in) × ((List Int) × ((List Int) × ((List Int) × ((List (tState.in × Int)) × Unit))))) → Int → Option (Option treach.in)) (q : Nat) : ∀ (m n d : Nat) (L : List En), d + m = 4 → m < n → Inv g s0 L → q < L.length →
    im_reached_l6 k g3 n mv (enc L) (q : Int) (d : Int) = g3 mv (enc (adds g q m d L)) ((q + 1 : Nat) : Int)
  | 0, n + 1, d, L, hd, _, hI, hq => by
    have := hI.bd r
    show im_reached_l6s k _ _ _ _ _ _ = _
    unfold im_reached_l6s
    rw [if_neg (ndt (by omega)), wr (by omega)]
    rfl
  | m + 1, n + 1, d, L, hd, hn, hI, hq => by
    have hb := hI.bd r
    have hfb := hI.fb q hq
    obtain ⟨hI2, hl2⟩ := hI.add hq (d := d) (by omega)
    have ih := re_in k r mv hmv g3 q m n (d + 1) (addE g L q d) (by omega) (by omega) hI2 (by omega)
    show im_reached_l6s k _ _ _ _ _ _ = _
    unfold im_reached_l6s
    have ec : ([110, 101, 115, 119] : List Int).getD (d : Int).toNat 0 = chrD (d : Int) := rfl
    have es : (enc L).1.getD (q : Int).toNat ((0 : Int), (0 : Int), ((0 : Int), (0 : Int), (0 : Int), (0 : Int), (0 : Int), (0 : Int), ()), ()) = (L.getD q e0).s := gmap (z := e0) En.s L _ hq
    have ef : (enc L).2.2.2.1.getD (q : Int).toNat (0 : Int) = (L.getD q e0).f := gmap (z := e0) En.f L _ hq
    have l1 : (enc L).1.length = L.length := List.length_map ..
    have l2 : (enc L).2.1.length = L.length := List.length_map ..
    have l3 : (enc L).2.2.1.length = L.length := List.length_map ..
    have l4 : (enc L).2.2.2.1.length = L.length := List.length_map ..
    have ln : (([110, 101, 115, 119] : List Int).length : Int) = 4 := rfl
    rw [if_pos (dt (by omega)), inb_eq (by rw [l1]; omega), inb_eq (by rw [ln]; omega), ec, es, hmv, Option.bind_some, wr (x := (d : Int) + 1) (by omega)]
    show _ = g3 mv (enc (adds g q m (d + 1) (addE g L q d))) _
    rw [← ih]
    show (if (!flo g (rol (L.getD q e0).s (chrD (d : Int)))) = true then _ else _) = _
    by_cases hf : flo g (rol (L.getD q e0).s (chrD (d : Int))) = true
    · rw [if_neg (by rw [hf]; decide)]
      show (if (lk tState I (pl 0 L) (rol (L.getD q e0).s (chrD (d : Int)))).isSome = true then _ else _) = _
      by_cases hm : rol (L.getD q e0).s (chrD (d : Int)) ∈ L.map En.s
      · rw [if_pos ((lk_pl _ L 0).2 hm)]
        have : addE g L q d = L := by unfold addE; rw [if_neg (fun z => z.2 hm)]
        rw [this]
        rfl
      · rw [if_neg (fun z => hm ((lk_pl _ L 0).1 z)), inb_eq (by rw [ln]; omega), inb_eq (by rw [l4]; omega), if_pos (by rw [l1]; simp; omega), if_pos (by rw [l2]; simp; omega), if_pos (by rw [l3]; simp; omega), if_pos (by rw [l4]; simp; omega), ef, wr (by omega)]
        have he : addE g L q d = L ++ [⟨rol (L.getD q e0).s (chrD (d : Int)), (q : Int), (d : Int), (L.getD q e0).f + 1⟩] := by unfold addE; rw [if_pos ⟨hf, hm⟩]
        rw [he]
        have eu : up tState I (enc L).2.2.2.2.1 (rol (L.getD q e0).s (chrD (d : Int))) ((enc L).1.length : Int) = pl 0 (L ++ [⟨rol (L.getD q e0).s (chrD (d : Int)), (q : Int), (d : Int), (L.getD q e0).f + 1⟩]) := by
          rw [pl_app, l1, Nat.zero_add]
          exact up_pl _ _ L 0 hm
        rw [eu]
        have ecn : chE ⟨rol (L.getD q e0).s (chrD (d : Int)), (q : Int), (d : Int), (L.getD q e0).f + 1⟩ = chrD (d : Int) := if_neg (show ¬ ((q : Int) < 0) by omega)
        unfold enc
        simp only [List.map_append, List.map_cons, List.map_nil, ecn]
        rfl
    · rw [if_pos (by simpa using hf)]
      have : addE g L q d = L := by unfold addE; rw [if_neg (fun z => hf z.1)]
      rw [this]
      rfl

/-! ### The reference's search -/
def zN : twyNode.in := (((0 : Int), (0 : Int), ((0 : Int), (0 : Int), (0 : Int), (0 : Int), (0 : Int), (0 : Int), ()), ()), (0 : Int), (0 : Int), (0 : Int), (0 : Int), (List.replicate 4 (0 : Int)), ())
def setNx (x : twyNode.in) (i v : Int) : twyNode.in := (x.1, x.2.1, x.2.2.1, x.2.2.2.1, x.2.2.2.2.1, x.2.2.2.2.2.1.set i.toNat v, x.2.2.2.2.2.2)
def addW (a b : twyNode.in) : twyNode.in := (a.1, a.2.1, IntKind.i64.wrap (a.2.2.1 + b.2.2.1), a.2.2.2)
abbrev G4 := tboGrid.in → (List twyNode.in) → (List Int) → Int → Option (List twyNode.in)
abbrev G7 := tboGrid.in → (List twyNode.in) → (List Int) → Int → Int → Option (List twyNode.in)
theorem j19_eq (k : Nat) (g4 : G4) (g7 : G7) (x2 : tboGrid.in) (x5 : List twyNode.in) (x6 : List Int) (x7 x8 x11 : Int) :
    sp_wyAll_j19s k g4 g7 x2 x5 x6 x7 x8 x11 = inb x7 x5.length (inb x8 4 (g7 x2 (x5.set x7.toNat (setNx (x5.getD x7.toNat zN) x8 x11)) x6 x7 (IntKind.i64.wrap (x8 + 1)))) := rfl
theorem j17_eq (k : Nat) (c19 : G4 → G7 → tboGrid.in → (List twyNode.in) → (List Int) → Int → Int → Int → Option (List twyNode.in)) (g4 : G4) (g7 : G7) (x2 : tboGrid.in) (x5 : List twyNode.in) (x6 : List Int) (x7 x8 x11 : Int) :
    sp_wyAll_j17s k c19 g4 g7 x2 x5 x6 x7 x8 x11 = inb x11 x5.length (inb x7 x5.length (if decide ((x5.getD x11.toNat zN).2.1 = IntKind.i64.wrap ((x5.getD x7.toNat zN).2.1 + 1)) = true then
      inb x11 x5.length (inb x7 x5.length (inb x11 x5.length (c19 g4 g7 x2 (x5.set x11.toNat (addW (x5.getD x11.toNat zN) (x5.getD x7.toNat zN))) x6 x7 x8 x11))) else c19 g4 g7 x2 x5 x6 x7 x8 x11)) := rfl
theorem l7_eq (k : Nat) (c17 : G4 → G7 → tboGrid.in → (List twyNode.in) → (List Int) → Int → Int → Int → Option (List twyNode.in)) (g4 : G4) (g7 : G7) (x2 : tboGrid.in) (x5 y5 : List twyNode.in) (x6 : List Int) (x7 x8 : Int) (hy : x5.set x7.toNat (setNx (x5.getD x7.toNat zN) x8 (-1)) = y5) :
    sp_wyAll_l7s k c17 g4 g7 x2 x5 x6 x7 x8 = if decide (x8 < 4) = true then inb x7 x5.length (inb x8 4 (inb x7 y5.length ((sp_boRoll k x2 (y5.getD x7.toNat zN).1 x8).bind fun r2 =>
      if (!r2.2.1) = true then g7 x2 y5 x6 x7 (IntKind.i64.wrap (x8 + 1)) else (sp_wyCode k x2 r2.1).bind fun r3 => (sp_wyPlace k x6 r3).bind fun r4 =>
        if decide (r4 < 0) = true then inb x7 y5.length (if y5.length + ([(r2.1, IntKind.i64.wrap ((y5.getD x7.toNat zN).2.1 + 1), (0 : Int), x7, x8, List.replicate 4 (0 : Int), ())] : List twyNode.in).length ≤ 17179869184 then ((sp_wyCode k x2 r2.1).bind fun r5 =>
          if x6.length + ([r5] : List Int).length ≤ 17179869184 then (c17 g4 g7 x2 (y5 ++ [(r2.1, IntKind.i64.wrap ((y5.getD x7.toNat zN).2.1 + 1), (0 : Int), x7, x8, List.replicate 4 (0 : Int), ())]) (x6 ++ [r5]) x7 x8 (y5.length : Int)) else none) else none)
        else c17 g4 g7 x2 y5 x6 x7 x8 r4))) else g4 x2 x5 x6 (IntKind.i64.wrap (x7 + 1)) := by
  subst hy; rfl
def pj (x : twyNode.in) : tState.in × Int × Int × Int := (x.1, x.2.1, x.2.2.2.1, x.2.2.2.2.1)
def pe (e : En) : tState.in × Int × Int × Int := (e.s, e.f, e.b, e.d)
structure Rel (w : Nat) (L : List En) (all : List twyNode.in) (codes : List Int) : Prop where
  a : all.map pj = L.map pe
  c : codes = L.map fun e => codeP w e.s
theorem Rel.len {w : Nat} {L : List En} {all : List twyNode.in} {codes : List Int} (h : Rel w L all codes) : all.length = L.length ∧ codes.length = L.length := by
  have := congrArg List.length h.a
  rw [List.length_map, List.length_map] at this
  exact ⟨this, by rw [h.c, List.length_map]⟩
theorem Rel.at {w : Nat} {L : List En} {all : List twyNode.in} {codes : List Int} (h : Rel w L all codes) {j : Nat} (hj : j < L.length) : pj (all.getD j zN) = pe (L.getD j e0) := by
  rw [← gmap (z := e0) pe L (pj zN) hj, ← h.a, gmap (z := zN) pj all (pj zN) (by rw [h.len.1]; exact hj)]
theorem map_set {α β : Type} {z : α} (f : α → β) (a : α) : ∀ (l : List α) (i : Nat), (i < l.length → f a = f (l.getD i z)) → (l.set i a).map f = l.map f
  | [], _, _ => rfl
  | x :: l, 0, h => by
    have : f a = f x := h (by simp)
    simp [this]
  | x :: l, i + 1, h => by
    have := map_set (z := z) f a l i (fun hi => h (by simpa using hi))
    simp [this]
theorem Rel.set {w : Nat} {L : List En} {all : List twyNode.in} {codes : List Int} (h : Rel w L all codes) (i : Nat) (a : twyNode.in) (ha : pj a = pj (all.getD i zN)) : Rel w L (all.set i a) codes :=
  ⟨(map_set (z := zN) pj a all i (fun _ => ha)).trans h.a, h.c⟩
theorem j17_is (k : Nat) (hk : 0 < k) {w : Nat} {L : List En} {all : List twyNode.in} {codes : List Int} (h : Rel w L all codes) (g4 : G4) (g7 : G7) (x2 : tboGrid.in) {q d : Nat} {x : Int} (hq : q < L.length) (hd : d < 4) (hx : 0 ≤ x ∧ x < (L.length : Int)) :
    ∃ all', Rel w L all' codes ∧ sp_wyAll_j17 k g4 g7 k x2 all codes (q : Int) (d : Int) x = g7 x2 all' codes (q : Int) ((d + 1 : Nat) : Int) := by
  obtain ⟨k, rfl⟩ : ∃ j, k = j + 1 := ⟨k - 1, by omega⟩
  have hl := h.len.1
  have h19 : ∀ A : List twyNode.in, Rel w L A codes → ∃ all', Rel w L all' codes ∧ sp_wyAll_j19 (k + 1) g4 g7 (k + 1) x2 A codes (q : Int) (d : Int) x = g7 x2 all' codes (q : Int) ((d + 1 : Nat) : Int) := by
    intro A hA
    refine ⟨_, hA.set q (setNx (A.getD q zN) (d : Int) x) rfl, ?_⟩
    show sp_wyAll_j19s (k + 1) g4 g7 _ _ _ _ _ _ = _
    rw [j19_eq, inb_eq (by have := hA.len.1; omega), inb_eq (by omega), wr (by omega)]
    rfl
  show ∃ all', Rel w L all' codes ∧ sp_wyAll_j17s (k + 1) (fun g0 g1 => sp_wyAll_j19 (k + 1) g0 g1 (k + 1)) g4 g7 x2 all codes (q : Int) (d : Int) x = g7 x2 all' codes (q : Int) ((d + 1 : Nat) : Int)
  rw [j17_eq, inb_eq (by omega), inb_eq (by omega)]
  split
  · rw [inb_eq (by omega), inb_eq (by omega), inb_eq (by omega)]
    exact h19 _ (h.set _ _ rfl)
  · exact h19 _ h
theorem wy_in (k : Nat) (hk : 1000000000 ≤ k) {g : List (List Int)} {w h : Nat} (r : Rc g w h) {s0 : tState.in} (g4 : G4) (q : Nat) : ∀ (m n d : Nat) (L : List En) (all : List twyNode.in) (codes : List Int), d + m = 4 → m < n → Inv g s0 L → q < L.length → Rel w L all codes →
    ∃ all' codes', Rel w (adds g q m d L) all' codes' ∧ sp_wyAll_l7 k g4 n (gr g w h) all codes (q : Int) (d : Int) = g4 (gr g w h) all' codes' ((q + 1 : Nat) : Int)
  | 0, n + 1, d, L, all, codes, hd, _, hI, hq, hR => by
    have := hI.bd r
    refine ⟨all, codes, hR, ?_⟩
    show sp_wyAll_l7s k _ _ _ _ _ _ _ _ = _
    rw [l7_eq k _ _ _ _ _ _ _ _ _ rfl, if_neg (ndt (by omega)), wr (by omega)]
    rfl
  | m + 1, n + 1, d, L, all, codes, hd, hn, hI, hq, hR => by
    have hb := hI.bd r
    have hfb := hI.fb q hq
    have hgq := hI.gd _ (gmem (z := e0) L hq)
    have hdir := chrD_dir (d := d) (by omega)
    obtain ⟨hI2, hl2⟩ := hI.add hq (d := d) (by omega)
    have hl := hR.len
    have hR5 : Rel w L (all.set q (setNx (all.getD q zN) (d : Int) (-1))) codes := hR.set q _ rfl
    generalize hy : all.set q (setNx (all.getD q zN) (d : Int) (-1)) = y5 at hR5
    have hl5 := hR5.len.1
    have hat := hR5.at hq
    have es : (y5.getD q zN).1 = (L.getD q e0).s := congrArg Prod.fst hat
    have ef : (y5.getD q zN).2.1 = (L.getD q e0).f := congrArg (fun z => z.2.1) hat
    have eq : (q : Int).toNat = q := by omega
    have ih := fun A C hR => wy_in k hk r g4 q m n (d + 1) (addE g L q d) A C (by omega) (by omega) hI2 (by omega) hR
    show ∃ all' codes', Rel w (adds g q m (d + 1) (addE g L q d)) all' codes' ∧ sp_wyAll_l7s k (fun g0 g1 => sp_wyAll_j17 k g0 g1 k) g4 (sp_wyAll_l7 k g4 n) (gr g w h) all codes (q : Int) (d : Int) = g4 (gr g w h) all' codes' ((q + 1 : Nat) : Int)
    rw [l7_eq k _ _ _ _ _ y5 _ _ _ hy, if_pos (dt (by omega)), inb_eq (by omega), inb_eq (by omega), inb_eq (by omega), eq, es]
    have hro := boRoll_is k r (L.getD q e0).s (chrD (d : Int)) hdir.1
    rw [hdir.2] at hro
    rw [hro, Option.bind_some]
    by_cases hf : flo g (rol (L.getD q e0).s (chrD (d : Int))) = true
    · rw [if_pos hf, if_neg (show ¬ ((!true) = true) by decide)]
      have hdk : dieOk (rol (L.getD q e0).s (chrD (d : Int))).2.2.1 = true := dieOk_rol _ _ hgq.2
      simp only
      rw [code_is k (by omega) r hf hdk, Option.bind_some, place_is k hk codes _ (by omega), Option.bind_some]
      by_cases hm : rol (L.getD q e0).s (chrD (d : Int)) ∈ L.map En.s
      · have hadd : addE g L q d = L := by unfold addE; rw [if_neg (fun z => z.2 hm)]
        have hge := fidx_ge (fun x => decide (x = codeP w (rol (L.getD q e0).s (chrD (d : Int))))) codes
        have hlt := fidx_lt (fun x => decide (x = codeP w (rol (L.getD q e0).s (chrD (d : Int))))) codes
        have hne : fidx (fun x => decide (x = codeP w (rol (L.getD q e0).s (chrD (d : Int))))) codes ≠ -1 := by
          intro z
          obtain ⟨e, he, hes⟩ := List.mem_map.1 hm
          have := (fidx_all _ _).1 z (codeP w e.s) (by rw [hR.c]; exact List.mem_map.2 ⟨e, he, rfl⟩)
          rw [hes] at this
          simp at this
        rw [if_neg (ndt (by omega))]
        obtain ⟨A, hA, eA⟩ := j17_is k (by omega) hR5 g4 (sp_wyAll_l7 k g4 n) (gr g w h) hq (show d < 4 by omega) (x := fidx (fun x => decide (x = codeP w (rol (L.getD q e0).s (chrD (d : Int))))) codes) (by omega)
        rw [hadd] at ih ⊢
        obtain ⟨A', C', hR', e'⟩ := ih A codes hA
        exact ⟨A', C', hR', (show _ = _ from eA).trans e'⟩
      · have hadd : addE g L q d = L ++ [⟨rol (L.getD q e0).s (chrD (d : Int)), (q : Int), (d : Int), (L.getD q e0).f + 1⟩] := by unfold addE; rw [if_pos ⟨hf, hm⟩]
        have hno : fidx (fun x => decide (x = codeP w (rol (L.getD q e0).s (chrD (d : Int))))) codes = -1 := by
          rw [fidx_all]
          intro x hx
          rw [hR.c] at hx
          obtain ⟨e, he, rfl⟩ := List.mem_map.1 hx
          refine decide_eq_false fun z => ?_
          have h1 := hI.gd e he
          exact hm (List.mem_map.2 ⟨e, he, code_inj r h1.1 h1.2 hf hdk z⟩)
        rw [hno, if_pos (by decide), inb_eq (by omega), if_pos (by simp; omega), Option.bind_some, if_pos (by simp; omega), ef, wr (by omega)]
        have hR6 : Rel w (L ++ [⟨rol (L.getD q e0).s (chrD (d : Int)), (q : Int), (d : Int), (L.getD q e0).f + 1⟩]) (y5 ++ [(rol (L.getD q e0).s (chrD (d : Int)), (L.getD q e0).f + 1, (0 : Int), (q : Int), (d : Int), List.replicate 4 (0 : Int), ())]) (codes ++ [codeP w (rol (L.getD q e0).s (chrD (d : Int)))]) :=
          ⟨by rw [List.map_append, List.map_append, hR5.a]; rfl, by rw [List.map_append, hR.c]; rfl⟩
        rw [hadd] at ih ⊢
        obtain ⟨A, hA, eA⟩ := j17_is k (by omega) hR6 g4 (sp_wyAll_l7 k g4 n) (gr g w h) (q := q) (d := d) (x := (y5.length : Int)) (by simp; omega) (by omega) (by simp; omega)
        obtain ⟨A', C', hR', e'⟩ := ih A _ hA
        exact ⟨A', C', hR', (show _ = _ from eA).trans e'⟩
    · rw [if_neg hf, if_pos (show ((!false) = true) by decide), wr (by omega)]
      have hadd : addE g L q d = L := by unfold addE; rw [if_neg (fun z => hf z.1)]
      rw [hadd] at ih ⊢
      obtain ⟨A', C', hR', e'⟩ := ih y5 codes hR5
      exact ⟨A', C', hR', e'⟩

/-! ### Both -/
theorem bfs (k : Nat) (hk : 1000000000 ≤ k) {g : List (List Int)} {w h : Nat} (r : Rc g w h) {s0 : tState.in} (mv : tState.in × (Int × Unit) → Option (tState.in × (Bool × Unit))) (hmv : ∀ s c, mv (s, c, ()) = some (rol s c, flo g (rol s c), ())) : ∀ (n q : Nat) (L : List En) (all : List twyNode.in) (codes : List Int), Inv g s0 L → q ≤ L.length → 49000000 < n + q → Rel w L all codes →
    ∃ L' all' codes', Inv g s0 L' ∧ Rel w L' all' codes' ∧ sp_wyAll_l4 k n (gr g w h) all codes (q : Int) = some all' ∧ im_reached_l3 k n mv (enc L) (q : Int) = some (some (enc L'))
  | 0, q, L, all, codes, hI, hq, hn, hR => by have := hI.bd r; omega
  | n + 1, q, L, all, codes, hI, hq, hn, hR => by
    have hl := hR.len
    have l1 : (enc L).1.length = L.length := List.length_map ..
    show ∃ L' all' codes', Inv g s0 L' ∧ Rel w L' all' codes' ∧ sp_wyAll_l4s k (fun g0 => sp_wyAll_l7 k g0 k) (sp_wyAll_l4 k n) (gr g w h) all codes (q : Int) = some all' ∧ im_reached_l3s k (fun g0 => im_reached_l6 k g0 k) (im_reached_l3 k n) mv (enc L) (q : Int) = some (some (enc L'))
    unfold sp_wyAll_l4s im_reached_l3s
    by_cases hlt : q < L.length
    · rw [if_pos (dt (by omega)), if_pos (dt (by rw [l1]; omega))]
      obtain ⟨A, C, hA, eA⟩ := wy_in k hk r (sp_wyAll_l4 k n) q 4 k 0 L all codes rfl (by omega) hI hlt hR
      have eB := re_in k r (s0 := s0) mv hmv (im_reached_l3 k n) q 4 k 0 L rfl (by omega) hI hlt
      obtain ⟨h1, h2⟩ := Inv.adds 4 0 L hI hlt rfl
      obtain ⟨L', A', C', b1, b2, b3, b4⟩ := bfs k hk r mv hmv n (q + 1) _ A C h1 (by omega) (by omega) hA
      exact ⟨L', A', C', b1, b2, (show _ = _ from eA).trans b3, (show _ = _ from eB).trans b4⟩
    · rw [if_neg (ndt (by omega)), if_neg (ndt (by rw [l1]; omega))]
      exact ⟨L, all, codes, hI, hR, rfl, rfl⟩
theorem reach_is (k : Nat) (hk : 1000000000 ≤ k) {g : List (List Int)} {w h : Nat} (r : Rc g w h) (s0 : tState.in) (hf : flo g s0 = true) (hd : dieOk s0.2.2.1 = true) (mv : tState.in × (Int × Unit) → Option (tState.in × (Bool × Unit))) (hmv : ∀ s c, mv (s, c, ()) = some (rol s c, flo g (rol s c), ())) :
    ∃ L all, Inv g s0 L ∧ all.map pj = L.map pe ∧ sp_wyAll k (gr g w h) s0 = some all ∧ im_reached k s0 mv = some (some (enc L)) := by
  have hI : Inv g s0 [⟨s0, -1, 0, 0⟩] := by
    refine ⟨by simp, fun e he => ?_, rfl, by simp, fun j hj hl => ?_, fun j hl => ?_⟩
    · rw [List.mem_singleton] at he; subst he; exact ⟨hf, hd⟩
    · rw [List.length_singleton] at hl; omega
    · rw [List.length_singleton] at hl
      obtain rfl : j = 0 := by omega
      exact ⟨Int.le_refl _, Int.le_refl _⟩
  obtain ⟨L, A, C, h1, h2, h3, h4⟩ := bfs k hk r (s0 := s0) mv hmv k 0 [⟨s0, -1, 0, 0⟩] [(s0, (0 : Int), (1 : Int), (-1 : Int), (0 : Int), (List.replicate 4 (0 : Int)), ())] [codeP w s0] hI (by simp) (by omega) ⟨rfl, rfl⟩
  refine ⟨L, A, h1, h2.a, ?_, h4⟩
  show (sp_wyCode k (gr g w h) s0).bind _ = _
  rw [code_is k (by omega) r hf hd]
  exact h3
end Ev
/- loop.example/g01207/spec.puDone -/
namespace Ev
open Go Go.Proofs
/-! spec.puDone -/
def sp_puDone_s (_k : Nat) (x0 : tPuzzle.in) (x1 : tState.in) : Option Bool :=
  if (decide (x1.1 = x0.2.2.1)) = true then
    if (decide (x1.2.1 = x0.2.2.2.1)) = true then
      some (decide (x1.2.2.1.1 = x0.2.2.2.2.1))
    else
      some false
  else
    some false
def sp_puDone (k : Nat) (x0 : tPuzzle.in) (x1 : tState.in) : Option Bool := sp_puDone_s k x0 x1
noncomputable def sp_puDone_O (k : Nat) : Orc := { ps := [.v tPuzzle, .v tState], rt := (.v T.b), F := fun x => sp_puDone k x.1 x.2.1 }
noncomputable def sp_puDone_E (k : Nat) : Env := { ty := tabTy Tryd_tab, ds := tabDs Tryd_tab, rounds := k, nt := 25, orc := fun _ => none, lp := fun _ => none, ct := fun _ => none, plan := fun _ => none }
noncomputable def sp_puDone_fin (k : Nat) : Kn Bool := finish (sp_puDone_E k) [.v tPuzzle, .v tState] (.v T.b) Tryd.f56.results.toList
theorem sp_puDone_st (k : Nat) (x0 : tPuzzle.in) (x1 : tState.in) : evFun (sp_puDone_E k) [.v tPuzzle, .v tState] (.v T.b) Tryd.f56 (x0, x1, ()) = sp_puDone_s k x0 x1 := by kernel_rfl
theorem sp_puDone_ev (k : Nat) (x0 : tPuzzle.in) (x1 : tState.in) : evFun (sp_puDone_E k) [.v tPuzzle, .v tState] (.v T.b) Tryd.f56 (x0, x1, ()) = sp_puDone k x0 x1 := by
  skip
  rw [sp_puDone_st]; rfl
theorem sp_puDone_c (k : Nat) : Contract Tryd.prog 56 (sp_puDone_O k) :=
  fun_sound (c := bodyOf Tryd.f56) (tab_ok Tryd_tab_ok rfl rfl) orc_nil Tryd.func56 (by kernel_rfl) rfl (by kernel_rfl) (by decide) rfl rfl (by kernel_rfl) (by kernel_rfl) (by kernel_rfl) (fun x _ h => (sp_puDone_ev k x.1 x.2.1).trans h)
end Ev
/- loop.example/g01207/spec.IsSolvedBy -/
namespace Ev
open Go Go.Proofs
/-! spec.IsSolvedBy -/
def sp_IsSolvedBy_s (k : Nat) (x0 : tPuzzle.in) (x1 : (List Int)) : Option (Bool × (Bool × Unit)) :=
  (sp_puGood k x0).bind fun r1 =>
  if (!r1) = true then
    some (false, false, ())
  else
    (sp_diWord k x1).bind fun r2 =>
    if (!r2) = true then
      some (false, false, ())
    else
      (sp_boWay k x0.1 x0.2.1 x1).bind fun r3 =>
      if r3.2.1 = true then
        inb (IntKind.i64.wrap ((r3.1.length : Int) - (1 : Int))) r3.1.length (
          (sp_puDone k x0 (r3.1.getD ((IntKind.i64.wrap ((r3.1.length : Int) - (1 : Int)))).toNat ((0 : Int), (0 : Int), ((0 : Int), (0 : Int), (0 : Int), (0 : Int), (0 : Int), (0 : Int), ()), ()))).bind fun r4 =>
          some (r4, true, ()))
      else
        some (false, true, ())
def sp_IsSolvedBy (k : Nat) (x0 : tPuzzle.in) (x1 : (List Int)) : Option (Bool × (Bool × Unit)) := sp_IsSolvedBy_s k x0 x1
noncomputable def sp_IsSolvedBy_O (k : Nat) : Orc := { ps := [.v tPuzzle, .v T.s], rt := (.pr (.v T.b) (.pr (.v T.b) .un)), F := fun x => sp_IsSolvedBy k x.1 x.2.1 }
noncomputable def sp_IsSolvedBy_E (k : Nat) : Env := { ty := tabTy Tryd_tab, ds := tabDs Tryd_tab, rounds := k, nt := 36, orc := fun g => if Nat.beq g 40 = true then some (sp_puGood_O k) else (if Nat.beq g 54 = true then some (sp_diWord_O k) else (if Nat.beq g 55 = true then some (sp_boWay_O k) else (if Nat.beq g 56 = true then some (sp_puDone_O k) else (none)))), lp := fun _ => none, ct := fun _ => none, plan := fun i => if Nat.beq i 4 = true then some [(0, []), (1, []), (2, []), (3, []), (4, []), (5, []), (6, []), (7, []), (8, []), (9, []), (10, []), (11, []), (12, [])] else (none) }
noncomputable def sp_IsSolvedBy_fin (k : Nat) : Kn (Bool × (Bool × Unit)) := finish (sp_IsSolvedBy_E k) [.v tPuzzle, .v T.s] (.pr (.v T.b) (.pr (.v T.b) .un)) Tryd.f29.results.toList
theorem sp_IsSolvedBy_st (k : Nat) (x0 : tPuzzle.in) (x1 : (List Int)) : evFun (sp_IsSolvedBy_E k) [.v tPuzzle, .v T.s] (.pr (.v T.b) (.pr (.v T.b) .un)) Tryd.f29 (x0, x1, ()) = sp_IsSolvedBy_s k x0 x1 := by kernel_rfl
theorem sp_IsSolvedBy_ev (k : Nat) (x0 : tPuzzle.in) (x1 : (List Int)) : evFun (sp_IsSolvedBy_E k) [.v tPuzzle, .v T.s] (.pr (.v T.b) (.pr (.v T.b) .un)) Tryd.f29 (x0, x1, ()) = sp_IsSolvedBy k x0 x1 := by
  skip
  rw [sp_IsSolvedBy_st]; rfl
theorem sp_IsSolvedBy_c (k : Nat) : Contract Tryd.prog 29 (sp_IsSolvedBy_O k) :=
  fun_sound (c := bodyOf Tryd.f29) (tab_ok Tryd_tab_ok rfl rfl) (orc_cons (sp_puGood_c k) (orc_cons (sp_diWord_c k) (orc_cons (sp_boWay_c k) (orc_cons (sp_puDone_c k) orc_nil)))) Tryd.func29 (by kernel_rfl) rfl (by kernel_rfl) (by decide) rfl rfl (by kernel_rfl) (by kernel_rfl) (by kernel_rfl) (fun x _ h => (sp_IsSolvedBy_ev k x.1 x.2.1).trans h)
end Ev
/- (loop.example/g01207/impl.State).isAt -/
namespace Ev
open Go Go.Proofs
/-! (impl.State).isAt -/
def im_State_isAt_s (_k : Nat) (x0 : tState.in) (x1 : Int) (x2 : Int) : Option Bool :=
  if (decide (x0.1 = x1)) = true then
    some (decide (x0.2.1 = x2))
  else
    some false
def im_State_isAt (k : Nat) (x0 : tState.in) (x1 : Int) (x2 : Int) : Option Bool := im_State_isAt_s k x0 x1 x2
noncomputable def im_State_isAt_O (k : Nat) : Orc := { ps := [.v tState, .v I, .v I], rt := (.v T.b), F := fun x => im_State_isAt k x.1 x.2.1 x.2.2.1 }
noncomputable def im_State_isAt_E (k : Nat) : Env := { ty := tabTy Tryd_tab, ds := tabDs Tryd_tab, rounds := k, nt := 17, orc := fun _ => none, lp := fun _ => none, ct := fun _ => none, plan := fun _ => none }
noncomputable def im_State_isAt_fin (k : Nat) : Kn Bool := finish (im_State_isAt_E k) [.v tState, .v I, .v I] (.v T.b) Tryd.f80.results.toList
theorem im_State_isAt_st (k : Nat) (x0 : tState.in) (x1 : Int) (x2 : Int) : evFun (im_State_isAt_E k) [.v tState, .v I, .v I] (.v T.b) Tryd.f80 (x0, x1, x2, ()) = im_State_isAt_s k x0 x1 x2 := by kernel_rfl
theorem im_State_isAt_ev (k : Nat) (x0 : tState.in) (x1 : Int) (x2 : Int) : evFun (im_State_isAt_E k) [.v tState, .v I, .v I] (.v T.b) Tryd.f80 (x0, x1, x2, ()) = im_State_isAt k x0 x1 x2 := by
  skip
  rw [im_State_isAt_st]; rfl
theorem im_State_isAt_c (k : Nat) : Contract Tryd.prog 80 (im_State_isAt_O k) :=
  fun_sound (c := bodyOf Tryd.f80) (tab_ok Tryd_tab_ok rfl rfl) orc_nil Tryd.func80 (by kernel_rfl) rfl (by kernel_rfl) (by decide) rfl rfl (by kernel_rfl) (by kernel_rfl) (by kernel_rfl) (fun x _ h => (im_State_isAt_ev k x.1 x.2.1 x.2.2.1).trans h)
end Ev
/- (loop.example/g01207/impl.Puzzle).isGoal -/
namespace Ev
open Go Go.Proofs
/-! (impl.Puzzle).isGoal -/
def im_Puzzle_isGoal_s (k : Nat) (x0 : tPuzzle.in) (x1 : tState.in) : Option Bool :=
  (im_State_isAt k x1 x0.2.2.1 x0.2.2.2.1).bind fun r1 =>
  if r1 = true then
    some (decide (x1.2.2.1.1 = x0.2.2.2.2.1))
  else
    some false
def im_Puzzle_isGoal (k : Nat) (x0 : tPuzzle.in) (x1 : tState.in) : Option Bool := im_Puzzle_isGoal_s k x0 x1
noncomputable def im_Puzzle_isGoal_O (k : Nat) : Orc := { ps := [.v tPuzzle, .v tState], rt := (.v T.b), F := fun x => im_Puzzle_isGoal k x.1 x.2.1 }
noncomputable def im_Puzzle_isGoal_E (k : Nat) : Env := { ty := tabTy Tryd_tab, ds := tabDs Tryd_tab, rounds := k, nt := 19, orc := fun g => if Nat.beq g 80 = true then some (im_State_isAt_O k) else (none), lp := fun _ => none, ct := fun _ => none, plan := fun _ => none }
noncomputable def im_Puzzle_isGoal_fin (k : Nat) : Kn Bool := finish (im_Puzzle_isGoal_E k) [.v tPuzzle, .v tState] (.v T.b) Tryd.f59.results.toList
theorem im_Puzzle_isGoal_st (k : Nat) (x0 : tPuzzle.in) (x1 : tState.in) : evFun (im_Puzzle_isGoal_E k) [.v tPuzzle, .v tState] (.v T.b) Tryd.f59 (x0, x1, ()) = im_Puzzle_isGoal_s k x0 x1 := by kernel_rfl
theorem im_Puzzle_isGoal_ev (k : Nat) (x0 : tPuzzle.in) (x1 : tState.in) : evFun (im_Puzzle_isGoal_E k) [.v tPuzzle, .v tState] (.v T.b) Tryd.f59 (x0, x1, ()) = im_Puzzle_isGoal k x0 x1 := by
  skip
  rw [im_Puzzle_isGoal_st]; rfl
theorem im_Puzzle_isGoal_c (k : Nat) : Contract Tryd.prog 59 (im_Puzzle_isGoal_O k) :=
  fun_sound (c := bodyOf Tryd.f59) (tab_ok Tryd_tab_ok rfl rfl) (orc_cons (im_State_isAt_c k) orc_nil) Tryd.func59 (by kernel_rfl) rfl (by kernel_rfl) (by decide) rfl rfl (by kernel_rfl) (by kernel_rfl) (by kernel_rfl) (fun x _ h => (im_Puzzle_isGoal_ev k x.1 x.2.1).trans h)
end Ev
/- loop.example/g01207/impl.IsSolvedBy -/
namespace Ev
open Go Go.Proofs
/-! impl.IsSolvedBy -/
def im_IsSolvedBy_s (k : Nat) (x0 : tPuzzle.in) (x1 : (List Int)) : Option (Bool × (Bool × Unit)) :=
  (im_IsPuzzle k x0).bind fun r1 =>
  if (!r1) = true then
    some (false, false, ())
  else
    (im_IsRolls k x1).bind fun r2 =>
    if (!r2) = true then
      some (false, false, ())
    else
      (im_statesAlong k x0.1 x0.2.1 x1).bind fun r3 =>
      if r3.2.1 = true then
        inb (x1.length : Int) r3.1.length (
          (im_Puzzle_isGoal k x0 (r3.1.getD ((x1.length : Int)).toNat ((0 : Int), (0 : Int), ((0 : Int), (0 : Int), (0 : Int), (0 : Int), (0 : Int), (0 : Int), ()), ()))).bind fun r4 =>
          some (r4, true, ()))
      else
        some (false, true, ())
def im_IsSolvedBy (k : Nat) (x0 : tPuzzle.in) (x1 : (List Int)) : Option (Bool × (Bool × Unit)) := im_IsSolvedBy_s k x0 x1
noncomputable def im_IsSolvedBy_O (k : Nat) : Orc := { ps := [.v tPuzzle, .v T.s], rt := (.pr (.v T.b) (.pr (.v T.b) .un)), F := fun x => im_IsSolvedBy k x.1 x.2.1 }
noncomputable def im_IsSolvedBy_E (k : Nat) : Env := { ty := tabTy Tryd_tab, ds := tabDs Tryd_tab, rounds := k, nt := 35, orc := fun g => if Nat.beq g 20 = true then some (im_IsPuzzle_O k) else (if Nat.beq g 57 = true then some (im_IsRolls_O k) else (if Nat.beq g 58 = true then some (im_statesAlong_O k) else (if Nat.beq g 59 = true then some (im_Puzzle_isGoal_O k) else (none)))), lp := fun _ => none, ct := fun _ => none, plan := fun i => if Nat.beq i 4 = true then some [(0, []), (1, []), (2, []), (3, []), (4, []), (5, []), (6, []), (7, []), (8, []), (9, []), (10, []), (11, [])] else (none) }
noncomputable def im_IsSolvedBy_fin (k : Nat) : Kn (Bool × (Bool × Unit)) := finish (im_IsSolvedBy_E k) [.v tPuzzle, .v T.s] (.pr (.v T.b) (.pr (.v T.b) .un)) Tryd.f30.results.toList
theorem im_IsSolvedBy_st (k : Nat) (x0 : tPuzzle.in) (x1 : (List Int)) : evFun (im_IsSolvedBy_E k) [.v tPuzzle, .v T.s] (.pr (.v T.b) (.pr (.v T.b) .un)) Tryd.f30 (x0, x1, ()) = im_IsSolvedBy_s k x0 x1 := by kernel_rfl
theorem im_IsSolvedBy_ev (k : Nat) (x0 : tPuzzle.in) (x1 : (List Int)) : evFun (im_IsSolvedBy_E k) [.v tPuzzle, .v T.s] (.pr (.v T.b) (.pr (.v T.b) .un)) Tryd.f30 (x0, x1, ()) = im_IsSolvedBy k x0 x1 := by
  skip
  rw [im_IsSolvedBy_st]; rfl
theorem im_IsSolvedBy_c (k : Nat) : Contract Tryd.prog 30 (im_IsSolvedBy_O k) :=
  fun_sound (c := bodyOf Tryd.f30) (tab_ok Tryd_tab_ok rfl rfl) (orc_cons (im_IsPuzzle_c k) (orc_cons (im_IsRolls_c k) (orc_cons (im_statesAlong_c k) (orc_cons (im_Puzzle_isGoal_c k) orc_nil)))) Tryd.func30 (by kernel_rfl) rfl (by kernel_rfl) (by decide) rfl rfl (by kernel_rfl) (by kernel_rfl) (by kernel_rfl) (fun x _ h => (im_IsSolvedBy_ev k x.1 x.2.1).trans h)
end Ev
/- loop.example/g01207/laws.FnExactIsSolvedBy -/
namespace Ev
open Go Go.Proofs
/-! laws.FnExactIsSolvedBy -/
def la_FnExactIsSolvedBy_s (k : Nat) (x0 : tPuzzle.in) (x1 : (List Int)) : Option Bool :=
  if (decide ((1048576 : Int) < (x1.length : Int))) = true then
    some true
  else
    (la_szPuzzle k x0 (1048576 : Int)).bind fun r1 =>
    if (decide (r1 < (0 : Int))) = true then
      some true
    else
      (la_toPuzzle k x0).bind fun r2 =>
      (sp_IsSolvedBy k r2 x1).bind fun r3 =>
      (la_toPuzzle k x0).bind fun r4 =>
      (im_IsSolvedBy k r4 x1).bind fun r5 =>
      if (!(decide (r5.1 = r3.1))) = true then
        some false
      else
        if (!(decide (r5.2.1 = r3.2.1))) = true then
          some false
        else
          some true
def la_FnExactIsSolvedBy (k : Nat) (x0 : tPuzzle.in) (x1 : (List Int)) : Option Bool := la_FnExactIsSolvedBy_s k x0 x1
noncomputable def la_FnExactIsSolvedBy_O (k : Nat) : Orc := { ps := [.v tPuzzle, .v T.s], rt := (.v T.b), F := fun x => la_FnExactIsSolvedBy k x.1 x.2.1 }
noncomputable def la_FnExactIsSolvedBy_E (k : Nat) : Env := { ty := tabTy Tryd_tab, ds := tabDs Tryd_tab, rounds := k, nt := 40, orc := fun g => if Nat.beq g 17 = true then some (la_szPuzzle_O k) else (if Nat.beq g 19 = true then some (la_toPuzzle_O k) else (if Nat.beq g 29 = true then some (sp_IsSolvedBy_O k) else (if Nat.beq g 30 = true then some (im_IsSolvedBy_O k) else (none)))), lp := fun _ => none, ct := fun _ => none, plan := fun _ => none }
noncomputable def la_FnExactIsSolvedBy_fin (k : Nat) : Kn Bool := finish (la_FnExactIsSolvedBy_E k) [.v tPuzzle, .v T.s] (.v T.b) Tryd.f9.results.toList
theorem la_FnExactIsSolvedBy_st (k : Nat) (x0 : tPuzzle.in) (x1 : (List Int)) : evFun (la_FnExactIsSolvedBy_E k) [.v tPuzzle, .v T.s] (.v T.b) Tryd.f9 (x0, x1, ()) = la_FnExactIsSolvedBy_s k x0 x1 := by kernel_rfl
theorem la_FnExactIsSolvedBy_ev (k : Nat) (x0 : tPuzzle.in) (x1 : (List Int)) : evFun (la_FnExactIsSolvedBy_E k) [.v tPuzzle, .v T.s] (.v T.b) Tryd.f9 (x0, x1, ()) = la_FnExactIsSolvedBy k x0 x1 := by
  skip
  rw [la_FnExactIsSolvedBy_st]; rfl
theorem la_FnExactIsSolvedBy_c (k : Nat) : Contract Tryd.prog 9 (la_FnExactIsSolvedBy_O k) :=
  fun_sound (c := bodyOf Tryd.f9) (tab_ok Tryd_tab_ok rfl rfl) (orc_cons (la_szPuzzle_c k) (orc_cons (la_toPuzzle_c k) (orc_cons (sp_IsSolvedBy_c k) (orc_cons (im_IsSolvedBy_c k) orc_nil)))) Tryd.func9 (by kernel_rfl) rfl (by kernel_rfl) (by decide) rfl rfl (by kernel_rfl) (by kernel_rfl) (by kernel_rfl) (fun x _ h => (la_FnExactIsSolvedBy_ev k x.1 x.2.1).trans h)
end Ev
/- The plain laws of IsSolvedBy and FirstSolved. -/
namespace Ev
open Go Go.Proofs
/-- What is asked of a puzzle and a word: both sides see the same states. -/
theorem solve_is (k : Nat) (hk : 2097152 ≤ k) (p : tPuzzle.in) (hs : List.length p.1 ≤ 1048576) (s : List Int) :
    (∃ g w h, Rc g w h ∧ puOk g p = true ∧ wordOk s = true ∧ (alo g p.2.1 s).length = s.length + 1 ∧ im_IsPuzzle k p = some true ∧ sp_puGood k p = some true ∧ im_statesAlong k p.1 p.2.1 s = some (alo g p.2.1 s, true, ()) ∧ sp_boWay k p.1 p.2.1 s = some (alo g p.2.1 s, true, ())) ∨
    (im_IsPuzzle k p = some false ∧ sp_puGood k p = some false ∧ ∃ l b, im_statesAlong k p.1 p.2.1 s = some (l, b, ())) ∨
    (im_IsPuzzle k p = some true ∧ sp_puGood k p = some true ∧ ∃ l, im_statesAlong k p.1 p.2.1 s = some (l, false, ()) ∧ sp_boWay k p.1 p.2.1 s = some ([], false, ())) := by
  rcases puz_is k hk p hs with ⟨w, h, b, -, -, h1, h2, h3, h4⟩ | ⟨g, -, h1, h2, h3, h4⟩
  · have hw := way_is k hk p.1 p.2.1 s (spl p.1) [] w h (stOk (spl p.1) p.2.1) (fun _ => b.rc)
    cases hp : puOk (spl p.1) p with
    | true =>
      have ho : stOk (spl p.1) p.2.1 = true := by
        unfold puOk at hp
        rw [Bool.and_eq_true] at hp; exact hp.1
      rw [ho] at hw
      rw [hp] at h3 h4
      rcases hw (by rw [h1, ho]; rfl) (by rw [h2, ho]; rfl) with ⟨-, a2, a3, a4, a5⟩ | ⟨-, l, a4, a5⟩
      · exact .inl ⟨spl p.1, w, h, b.rc, hp, a2, a3, h3, h4, a4, a5⟩
      · exact .inr (.inr ⟨h3, h4, l, a4, a5⟩)
    | false =>
      rw [hp] at h3 h4
      refine .inr (.inl ⟨h3, h4, ?_⟩)
      cases ho : stOk (spl p.1) p.2.1 with
      | true =>
        rw [ho] at hw
        rcases hw (by rw [h1, ho]; rfl) (by rw [h2, ho]; rfl) with ⟨-, a2, a3, a4, a5⟩ | ⟨-, l, a4, a5⟩
        · exact ⟨_, _, a4⟩
        · exact ⟨_, _, a4⟩
      | false =>
        refine ⟨[], false, ?_⟩
        show (im_onBoard k p.1 p.2.1).bind _ = _
        rw [h1, ho]; rfl
  · refine .inr (.inl ⟨h3, h4, [], false, ?_⟩)
    show (im_onBoard k p.1 p.2.1).bind _ = _
    rw [h1]; rfl
def goal (p : tPuzzle.in) (s : tState.in) : Bool := decide (s.1 = p.2.2.1 ∧ s.2.1 = p.2.2.2.1 ∧ s.2.2.1.1 = p.2.2.2.2.1)
theorem isGoal_is (k : Nat) (p : tPuzzle.in) (s : tState.in) : im_Puzzle_isGoal k p s = some (goal p s) := by
  show (Option.bind (if decide (s.1 = p.2.2.1) = true then some (decide (s.2.1 = p.2.2.2.1)) else some false) _) = _
  unfold goal
  by_cases h1 : s.1 = p.2.2.1
  · by_cases h2 : s.2.1 = p.2.2.2.1
    · simp [h1, h2]
    · simp [h1, h2]
  · simp [h1]
theorem puDone_is (k : Nat) (p : tPuzzle.in) (s : tState.in) : sp_puDone k p s = some (goal p s) := by
  show (if decide (s.1 = p.2.2.1) = true then if decide (s.2.1 = p.2.2.2.1) = true then some (decide (s.2.2.1.1 = p.2.2.2.2.1)) else some false else some false) = _
  unfold goal
  by_cases h1 : s.1 = p.2.2.1
  · by_cases h2 : s.2.1 = p.2.2.2.1
    · simp [h1, h2]
    · simp [h1, h2]
  · simp [h1]
theorem solvedBy_is (k : Nat) (hk : 2097152 ≤ k) (p : tPuzzle.in) (hs : List.length p.1 ≤ 1048576) (s : List Int) : ∃ r, sp_IsSolvedBy k p s = some r ∧ im_IsSolvedBy k p s = some r := by
  have e1 : sp_IsSolvedBy k p s = (sp_puGood k p).bind _ := rfl
  have e2 : im_IsSolvedBy k p s = (im_IsPuzzle k p).bind _ := rfl
  rw [e1, e2]
  rcases solve_is k hk p hs s with ⟨g, w, h, -, -, h1, h2, h3, h4, h5, h6⟩ | ⟨h3, h4, -⟩ | ⟨h3, h4, l, h5, h6⟩
  · have hl := of_decide_eq_true h1
    rw [h3, h4, Option.bind_some, Option.bind_some, if_neg (by decide), if_neg (by decide), diWord_is k hk, isRolls_is, Option.bind_some, Option.bind_some, h1, if_neg (by decide), if_neg (by decide), h5, h6, Option.bind_some, Option.bind_some, if_pos rfl, if_pos rfl]
    have e3 : IntKind.i64.wrap (((alo g p.2.1 s).length : Int) - 1) = (s.length : Int) := by rw [wr (by omega)]; omega
    simp only [e3]
    rw [inb_eq (by omega), inb_eq (by omega)]
    simp only [puDone_is, isGoal_is]
    exact ⟨_, rfl, rfl⟩
  · rw [h3, h4]; exact ⟨_, rfl, rfl⟩
  · rw [h3, h4, Option.bind_some, Option.bind_some, if_neg (by decide), if_neg (by decide), diWord_is k hk, isRolls_is, Option.bind_some, Option.bind_some]
    cases wordOk s with
    | false => exact ⟨_, rfl, rfl⟩
    | true =>
      rw [if_neg (by decide), if_neg (by decide), h5, h6]
      exact ⟨_, rfl, rfl⟩
theorem law_IsSolvedBy (k : Nat) (hk : 2097152 ≤ k) (x : tPuzzle.in) (h : tPuzzle.InR x) (y : List Int) : la_FnExactIsSolvedBy k x y = some true := by
  show (if decide ((1048576 : Int) < (y.length : Int)) = true then some true else _) = _
  by_cases hy : (1048576 : Int) < (y.length : Int)
  · rw [if_pos (dt hy)]
  · rw [if_neg (ndt hy)]
    refine guard_puzzle k x h _ fun hl => ?_
    obtain ⟨r, e1, e2⟩ := solvedBy_is k hk x hl y
    show ((sp_IsSolvedBy k x y).bind fun r3 => (im_IsSolvedBy k x y).bind fun r5 => _) = _
    rw [e1, e2, Option.bind_some, Option.bind_some, if_neg (nnd rfl), if_neg (nnd rfl)]
theorem pure_FnExactIsSolvedBy (x : tPuzzle.in) (y : List Int) (h : tPuzzle.InR x) (_ : T.s.InR y) : ∃ k, la_FnExactIsSolvedBy k x y = some true := ⟨2097152, law_IsSolvedBy 2097152 (Nat.le_refl _) x h y⟩
end Ev
/- loop.example/g01207/spec.FirstSolved -/
namespace Ev
open Go Go.Proofs
/-! spec.FirstSolved -/
@[reducible] def sp_FirstSolved_l7_L : List (Nat × Sh) := [(1, (.v T.s)), (2, (.bx 42 (.v tPuzzle))), (29, (.o 32 tState)), (30, (.v I)), (31, (.v I))]
def sp_FirstSolved_l7s (k : Nat) (g_l7 : (List Int) → tPuzzle.in → (List tState.in) → Int → Int → Option ((List Int) × (Bool × Unit))) (x1 : (List Int)) (x2 : tPuzzle.in) (x29 : (List tState.in)) (x30 : Int) (x31 : Int) : Option ((List Int) × (Bool × Unit)) :=
  if (decide (x31 < x30)) = true then
    inb x31 x29.length (
      (sp_puDone k x2 (x29.getD (x31).toNat ((0 : Int), (0 : Int), ((0 : Int), (0 : Int), (0 : Int), (0 : Int), (0 : Int), (0 : Int), ()), ()))).bind fun r4 =>
      if r4 = true then
        cut (0 : Int) x31 (x1.length) (
          some (((x1.take (x31).toNat).drop ((0 : Int)).toNat), true, ()))
      else
        g_l7 x1 x2 x29 x30 (IntKind.i64.wrap (x31 + (1 : Int))))
  else
    some (([] : List Int), false, ())
def sp_FirstSolved_l7 (k : Nat)  : Nat → (List Int) → tPuzzle.in → (List tState.in) → Int → Int → Option ((List Int) × (Bool × Unit))
  | 0, _, _, _, _, _ => none
  | n + 1, x1, x2, x29, x30, x31 => sp_FirstSolved_l7s k (sp_FirstSolved_l7 k n) x1 x2 x29 x30 x31
def sp_FirstSolved_s (k : Nat) (c_l7 : (List Int) → tPuzzle.in → (List tState.in) → Int → Int → Option ((List Int) × (Bool × Unit))) (x0 : tPuzzle.in) (x1 : (List Int)) : Option ((List Int) × (Bool × Unit)) :=
  (sp_puGood k x0).bind fun r1 =>
  if (!r1) = true then
    some (([] : List Int), false, ())
  else
    (sp_diWord k x1).bind fun r2 =>
    if (!r2) = true then
      some (([] : List Int), false, ())
    else
      (sp_boWay k x0.1 x0.2.1 x1).bind fun r3 =>
      if (!r3.2.1) = true then
        some (([] : List Int), false, ())
      else
        c_l7 x1 x0 r3.1 (r3.1.length : Int) (0 : Int)
def sp_FirstSolved (k : Nat) (x0 : tPuzzle.in) (x1 : (List Int)) : Option ((List Int) × (Bool × Unit)) := sp_FirstSolved_s k (sp_FirstSolved_l7 k k) x0 x1
noncomputable def sp_FirstSolved_O (k : Nat) : Orc := { ps := [.v tPuzzle, .v T.s], rt := (.pr (.v T.s) (.pr (.v T.b) .un)), F := fun x => sp_FirstSolved k x.1 x.2.1 }
noncomputable def sp_FirstSolved_E (k : Nat) : Env := { ty := tabTy Tryd_tab, ds := tabDs Tryd_tab, rounds := k, nt := 43, orc := fun g => if Nat.beq g 40 = true then some (sp_puGood_O k) else (if Nat.beq g 54 = true then some (sp_diWord_O k) else (if Nat.beq g 55 = true then some (sp_boWay_O k) else (if Nat.beq g 56 = true then some (sp_puDone_O k) else (none)))), lp := fun i => if Nat.beq i 7 = true then some sp_FirstSolved_l7_L else (none), ct := fun _ => none, plan := fun _ => none }
noncomputable def sp_FirstSolved_fin (k : Nat) : Kn ((List Int) × (Bool × Unit)) := finish (sp_FirstSolved_E k) [.v tPuzzle, .v T.s] (.pr (.v T.s) (.pr (.v T.b) .un)) Tryd.f31.results.toList
noncomputable def sp_FirstSolved_l7_e (k : Nat)  (n : Nat) (x1 : (List Int)) (x2 : tPuzzle.in) (x29 : (List tState.in)) (x30 : Int) (x31 : Int) : Option ((List Int) × (Bool × Unit)) := loopF (sp_FirstSolved_E k) sp_FirstSolved_l7_L (ev (sp_FirstSolved_E k) (sub (bodyOf Tryd.f31) [.r, .r, .r, .r, .l, .r, .c, .c])) (kont (sp_FirstSolved_E k) (bodyOf Tryd.f31) [.r, .r, .r, .r, .l, .r, .c] [] (sp_FirstSolved_fin k)) n (x1, x2, x29, x30, x31, ())
theorem sp_FirstSolved_l7_z (k : Nat)  (x1 : (List Int)) (x2 : tPuzzle.in) (x29 : (List tState.in)) (x30 : Int) (x31 : Int) : sp_FirstSolved_l7_e k 0 x1 x2 x29 x30 x31 = none := by kernel_rfl
theorem sp_FirstSolved_l7_st (k : Nat)  (n : Nat) (x1 : (List Int)) (x2 : tPuzzle.in) (x29 : (List tState.in)) (x30 : Int) (x31 : Int) : sp_FirstSolved_l7_e k (n + 1) x1 x2 x29 x30 x31 = sp_FirstSolved_l7s k (sp_FirstSolved_l7_e k n) x1 x2 x29 x30 x31 := by kernel_rfl
theorem sp_FirstSolved_l7_ev (k : Nat)  : ∀ (n : Nat) (x1 : (List Int)) (x2 : tPuzzle.in) (x29 : (List tState.in)) (x30 : Int) (x31 : Int), sp_FirstSolved_l7_e k n x1 x2 x29 x30 x31 = sp_FirstSolved_l7 k n x1 x2 x29 x30 x31
  | 0, x1, x2, x29, x30, x31 => sp_FirstSolved_l7_z k x1 x2 x29 x30 x31
  | n + 1, x1, x2, x29, x30, x31 => by
    have ih : (sp_FirstSolved_l7_e k n) = sp_FirstSolved_l7 k n := by funext y0 y1 y2 y3 y4; exact sp_FirstSolved_l7_ev k n y0 y1 y2 y3 y4
    rw [sp_FirstSolved_l7_st, ih]; rfl
theorem sp_FirstSolved_st (k : Nat) (x0 : tPuzzle.in) (x1 : (List Int)) : evFun (sp_FirstSolved_E k) [.v tPuzzle, .v T.s] (.pr (.v T.s) (.pr (.v T.b) .un)) Tryd.f31 (x0, x1, ()) = sp_FirstSolved_s k (sp_FirstSolved_l7_e k k) x0 x1 := by kernel_rfl
theorem sp_FirstSolved_ev (k : Nat) (x0 : tPuzzle.in) (x1 : (List Int)) : evFun (sp_FirstSolved_E k) [.v tPuzzle, .v T.s] (.pr (.v T.s) (.pr (.v T.b) .un)) Tryd.f31 (x0, x1, ()) = sp_FirstSolved k x0 x1 := by
  have h0 : (sp_FirstSolved_l7_e k k) = (sp_FirstSolved_l7 k k) := by funext y0 y1 y2 y3 y4; exact sp_FirstSolved_l7_ev k k y0 y1 y2 y3 y4
  rw [sp_FirstSolved_st, h0]; rfl
theorem sp_FirstSolved_c (k : Nat) : Contract Tryd.prog 31 (sp_FirstSolved_O k) :=
  fun_sound (c := bodyOf Tryd.f31) (tab_ok Tryd_tab_ok rfl rfl) (orc_cons (sp_puGood_c k) (orc_cons (sp_diWord_c k) (orc_cons (sp_boWay_c k) (orc_cons (sp_puDone_c k) orc_nil)))) Tryd.func31 (by kernel_rfl) rfl (by kernel_rfl) (by decide) rfl rfl (by kernel_rfl) (by kernel_rfl) (by kernel_rfl) (fun x _ h => (sp_FirstSolved_ev k x.1 x.2.1).trans h)
end Ev
/- slices.IndexFunc[[]loop.example/g01207/impl.State,loop.example/g01207/impl.State] -/
namespace Ev
open Go Go.Proofs
/-! slices.IndexFunc[[]impl.State,impl.State] -/
@[reducible] def slices_IndexFunc_impl_State_impl_State_l2_L : List (Nat × Sh) := [(0, (.v (.sl tState))), (1, (.v (.fn (.pr tState T.un) T.b))), (7, (.v I)), (8, (.v I))]
def slices_IndexFunc_impl_State_impl_State_l2s (_k : Nat) (g_l2 : (List tState.in) → ((tState.in × Unit) → Option Bool) → Int → Int → Option Int) (x0 : (List tState.in)) (x1 : ((tState.in × Unit) → Option Bool)) (x7 : Int) (x8 : Int) : Option Int :=
  if (decide (x8 < x7)) = true then
    inb x8 x0.length (
      (x1 ((rdT tState x0 x8), ())).bind fun r1 =>
      if r1 = true then
        some x8
      else
        g_l2 x0 x1 x7 (IntKind.i64.wrap (x8 + (1 : Int))))
  else
    some (-1 : Int)
def slices_IndexFunc_impl_State_impl_State_l2 (k : Nat)  : Nat → (List tState.in) → ((tState.in × Unit) → Option Bool) → Int → Int → Option Int
  | 0, _, _, _, _ => none
  | n + 1, x0, x1, x7, x8 => slices_IndexFunc_impl_State_impl_State_l2s k (slices_IndexFunc_impl_State_impl_State_l2 k n) x0 x1 x7 x8
def slices_IndexFunc_impl_State_impl_State_s (_k : Nat) (c_l2 : (List tState.in) → ((tState.in × Unit) → Option Bool) → Int → Int → Option Int) (x0 : (List tState.in)) (x1 : ((tState.in × Unit) → Option Bool)) : Option Int :=
  c_l2 x0 x1 (x0.length : Int) (0 : Int)
def slices_IndexFunc_impl_State_impl_State (k : Nat) (x0 : (List tState.in)) (x1 : ((tState.in × Unit) → Option Bool)) : Option Int := slices_IndexFunc_impl_State_impl_State_s k (slices_IndexFunc_impl_State_impl_State_l2 k k) x0 x1
noncomputable def slices_IndexFunc_impl_State_impl_State_O (k : Nat) : Orc := { ps := [.v (.sl tState), .v (.fn (.pr tState T.un) T.b)], rt := (.v I), F := fun x => slices_IndexFunc_impl_State_impl_State k x.1 x.2.1 }
noncomputable def slices_IndexFunc_impl_State_impl_State_E (k : Nat) : Env := { ty := tabTy Tryd_tab, ds := tabDs Tryd_tab, rounds := k, nt := 19, orc := fun _ => none, lp := fun i => if Nat.beq i 2 = true then some slices_IndexFunc_impl_State_impl_State_l2_L else (none), ct := fun _ => none, plan := fun _ => none }
noncomputable def slices_IndexFunc_impl_State_impl_State_fin (k : Nat) : Kn Int := finish (slices_IndexFunc_impl_State_impl_State_E k) [.v (.sl tState), .v (.fn (.pr tState T.un) T.b)] (.v I) Tryd.f60.results.toList
noncomputable def slices_IndexFunc_impl_State_impl_State_l2_e (k : Nat)  (n : Nat) (x0 : (List tState.in)) (x1 : ((tState.in × Unit) → Option Bool)) (x7 : Int) (x8 : Int) : Option Int := loopF (slices_IndexFunc_impl_State_impl_State_E k) slices_IndexFunc_impl_State_impl_State_l2_L (ev (slices_IndexFunc_impl_State_impl_State_E k) (sub (bodyOf Tryd.f60) [.r, .l, .r, .c, .c])) (kont (slices_IndexFunc_impl_State_impl_State_E k) (bodyOf Tryd.f60) [.r, .l, .r, .c] [] (slices_IndexFunc_impl_State_impl_State_fin k)) n (x0, x1, x7, x8, ())
theorem slices_IndexFunc_impl_State_impl_State_l2_z (k : Nat)  (x0 : (List tState.in)) (x1 : ((tState.in × Unit) → Option Bool)) (x7 : Int) (x8 : Int) : slices_IndexFunc_impl_State_impl_State_l2_e k 0 x0 x1 x7 x8 = none := by kernel_rfl
theorem slices_IndexFunc_impl_State_impl_State_l2_st (k : Nat)  (n : Nat) (x0 : (List tState.in)) (x1 : ((tState.in × Unit) → Option Bool)) (x7 : Int) (x8 : Int) : slices_IndexFunc_impl_State_impl_State_l2_e k (n + 1) x0 x1 x7 x8 = slices_IndexFunc_impl_State_impl_State_l2s k (slices_IndexFunc_impl_State_impl_State_l2_e k n) x0 x1 x7 x8 := by kernel_rfl
theorem slices_IndexFunc_impl_State_impl_State_l2_ev (k : Nat)  : ∀ (n : Nat) (x0 : (List tState.in)) (x1 : ((tState.in × Unit) → Option Bool)) (x7 : Int) (x8 : Int), slices_IndexFunc_impl_State_impl_State_l2_e k n x0 x1 x7 x8 = slices_IndexFunc_impl_State_impl_State_l2 k n x0 x1 x7 x8
  | 0, x0, x1, x7, x8 => slices_IndexFunc_impl_State_impl_State_l2_z k x0 x1 x7 x8
  | n + 1, x0, x1, x7, x8 => by
    have ih : (slices_IndexFunc_impl_State_impl_State_l2_e k n) = slices_IndexFunc_impl_State_impl_State_l2 k n := by funext y0 y1 y2 y3; exact slices_IndexFunc_impl_State_impl_State_l2_ev k n y0 y1 y2 y3
    rw [slices_IndexFunc_impl_State_impl_State_l2_st, ih]; rfl
theorem slices_IndexFunc_impl_State_impl_State_st (k : Nat) (x0 : (List tState.in)) (x1 : ((tState.in × Unit) → Option Bool)) : evFun (slices_IndexFunc_impl_State_impl_State_E k) [.v (.sl tState), .v (.fn (.pr tState T.un) T.b)] (.v I) Tryd.f60 (x0, x1, ()) = slices_IndexFunc_impl_State_impl_State_s k (slices_IndexFunc_impl_State_impl_State_l2_e k k) x0 x1 := by kernel_rfl
theorem slices_IndexFunc_impl_State_impl_State_ev (k : Nat) (x0 : (List tState.in)) (x1 : ((tState.in × Unit) → Option Bool)) : evFun (slices_IndexFunc_impl_State_impl_State_E k) [.v (.sl tState), .v (.fn (.pr tState T.un) T.b)] (.v I) Tryd.f60 (x0, x1, ()) = slices_IndexFunc_impl_State_impl_State k x0 x1 := by
  have h0 : (slices_IndexFunc_impl_State_impl_State_l2_e k k) = (slices_IndexFunc_impl_State_impl_State_l2 k k) := by funext y0 y1 y2 y3; exact slices_IndexFunc_impl_State_impl_State_l2_ev k k y0 y1 y2 y3
  rw [slices_IndexFunc_impl_State_impl_State_st, h0]; rfl
theorem slices_IndexFunc_impl_State_impl_State_c (k : Nat) : Contract Tryd.prog 60 (slices_IndexFunc_impl_State_impl_State_O k) :=
  fun_sound (c := bodyOf Tryd.f60) (tab_ok Tryd_tab_ok rfl rfl) orc_nil Tryd.func60 (by kernel_rfl) rfl (by kernel_rfl) (by decide) rfl rfl (by kernel_rfl) (by kernel_rfl) (by kernel_rfl) (fun x _ h => (slices_IndexFunc_impl_State_impl_State_ev k x.1 x.2.1).trans h)
end Ev
/- loop.example/g01207/impl.FirstSolved -/
namespace Ev
open Go Go.Proofs
/-! impl.FirstSolved -/
def im_FirstSolved_s (k : Nat) (x0 : tPuzzle.in) (x1 : (List Int)) : Option ((List Int) × (Bool × Unit)) :=
  (im_statesAlong k x0.1 x0.2.1 x1).bind fun r1 =>
  (im_IsPuzzle k x0).bind fun r2 =>
  if (!r2) = true then
    some (([] : List Int), false, ())
  else
    if (!r1.2.1) = true then
      some (([] : List Int), false, ())
    else
      (slices_IndexFunc_impl_State_impl_State k r1.1 (fun (a3 : (tState.in × Unit)) => (im_Puzzle_isGoal k x0 a3.1).bind fun r4 => some r4)).bind fun r5 =>
      if (decide (r5 < (0 : Int))) = true then
        some (([] : List Int), false, ())
      else
        cut (0 : Int) r5 (x1.length) (
          some (((x1.take (r5).toNat).drop ((0 : Int)).toNat), true, ()))
def im_FirstSolved (k : Nat) (x0 : tPuzzle.in) (x1 : (List Int)) : Option ((List Int) × (Bool × Unit)) := im_FirstSolved_s k x0 x1
noncomputable def im_FirstSolved_O (k : Nat) : Orc := { ps := [.v tPuzzle, .v T.s], rt := (.pr (.v T.s) (.pr (.v T.b) .un)), F := fun x => im_FirstSolved k x.1 x.2.1 }
noncomputable def im_FirstSolved_E (k : Nat) : Env := { ty := tabTy Tryd_tab, ds := tabDs Tryd_tab, rounds := k, nt := 34, orc := fun g => if Nat.beq g 20 = true then some (im_IsPuzzle_O k) else (if Nat.beq g 58 = true then some (im_statesAlong_O k) else (if Nat.beq g 59 = true then some (im_Puzzle_isGoal_O k) else (if Nat.beq g 60 = true then some (slices_IndexFunc_impl_State_impl_State_O k) else (none)))), lp := fun _ => none, ct := fun _ => none, plan := fun _ => none }
noncomputable def im_FirstSolved_fin (k : Nat) : Kn ((List Int) × (Bool × Unit)) := finish (im_FirstSolved_E k) [.v tPuzzle, .v T.s] (.pr (.v T.s) (.pr (.v T.b) .un)) Tryd.f32.results.toList
theorem im_FirstSolved_st (k : Nat) (x0 : tPuzzle.in) (x1 : (List Int)) : evFun (im_FirstSolved_E k) [.v tPuzzle, .v T.s] (.pr (.v T.s) (.pr (.v T.b) .un)) Tryd.f32 (x0, x1, ()) = im_FirstSolved_s k x0 x1 := by kernel_rfl
theorem im_FirstSolved_ev (k : Nat) (x0 : tPuzzle.in) (x1 : (List Int)) : evFun (im_FirstSolved_E k) [.v tPuzzle, .v T.s] (.pr (.v T.s) (.pr (.v T.b) .un)) Tryd.f32 (x0, x1, ()) = im_FirstSolved k x0 x1 := by
  skip
  rw [im_FirstSolved_st]; rfl
theorem im_FirstSolved_c (k : Nat) : Contract Tryd.prog 32 (im_FirstSolved_O k) :=
  fun_sound (c := bodyOf Tryd.f32) (tab_ok Tryd_tab_ok rfl rfl) (orc_cons (im_IsPuzzle_c k) (orc_cons (im_statesAlong_c k) (orc_cons (im_Puzzle_isGoal_c k) (orc_cons (slices_IndexFunc_impl_State_impl_State_c k) orc_nil)))) Tryd.func32 (by kernel_rfl) rfl (by kernel_rfl) (by decide) rfl rfl (by kernel_rfl) (by kernel_rfl) (by kernel_rfl) (fun x _ h => (im_FirstSolved_ev k x.1 x.2.1).trans h)
end Ev
/- loop.example/g01207/laws.FnExactFirstSolved -/
namespace Ev
open Go Go.Proofs
/-! laws.FnExactFirstSolved -/
def la_FnExactFirstSolved_s (k : Nat) (x0 : tPuzzle.in) (x1 : (List Int)) : Option Bool :=
  if (decide ((1048576 : Int) < (x1.length : Int))) = true then
    some true
  else
    (la_szPuzzle k x0 (1048576 : Int)).bind fun r1 =>
    if (decide (r1 < (0 : Int))) = true then
      some true
    else
      (la_toPuzzle k x0).bind fun r2 =>
      (sp_FirstSolved k r2 x1).bind fun r3 =>
      (la_toPuzzle k x0).bind fun r4 =>
      (im_FirstSolved k r4 x1).bind fun r5 =>
      if (!decide (r5.1 = r3.1)) = true then
        some false
      else
        if (!(decide (r5.2.1 = r3.2.1))) = true then
          some false
        else
          some true
def la_FnExactFirstSolved (k : Nat) (x0 : tPuzzle.in) (x1 : (List Int)) : Option Bool := la_FnExactFirstSolved_s k x0 x1
noncomputable def la_FnExactFirstSolved_O (k : Nat) : Orc := { ps := [.v tPuzzle, .v T.s], rt := (.v T.b), F := fun x => la_FnExactFirstSolved k x.1 x.2.1 }
noncomputable def la_FnExactFirstSolved_E (k : Nat) : Env := { ty := tabTy Tryd_tab, ds := tabDs Tryd_tab, rounds := k, nt := 40, orc := fun g => if Nat.beq g 17 = true then some (la_szPuzzle_O k) else (if Nat.beq g 19 = true then some (la_toPuzzle_O k) else (if Nat.beq g 31 = true then some (sp_FirstSolved_O k) else (if Nat.beq g 32 = true then some (im_FirstSolved_O k) else (none)))), lp := fun _ => none, ct := fun _ => none, plan := fun _ => none }
noncomputable def la_FnExactFirstSolved_fin (k : Nat) : Kn Bool := finish (la_FnExactFirstSolved_E k) [.v tPuzzle, .v T.s] (.v T.b) Tryd.f10.results.toList
theorem la_FnExactFirstSolved_st (k : Nat) (x0 : tPuzzle.in) (x1 : (List Int)) : evFun (la_FnExactFirstSolved_E k) [.v tPuzzle, .v T.s] (.v T.b) Tryd.f10 (x0, x1, ()) = la_FnExactFirstSolved_s k x0 x1 := by kernel_rfl
theorem la_FnExactFirstSolved_ev (k : Nat) (x0 : tPuzzle.in) (x1 : (List Int)) : evFun (la_FnExactFirstSolved_E k) [.v tPuzzle, .v T.s] (.v T.b) Tryd.f10 (x0, x1, ()) = la_FnExactFirstSolved k x0 x1 := by
  skip
  rw [la_FnExactFirstSolved_st]; rfl
theorem la_FnExactFirstSolved_c (k : Nat) : Contract Tryd.prog 10 (la_FnExactFirstSolved_O k) :=
  fun_sound (c := bodyOf Tryd.f10) (tab_ok Tryd_tab_ok rfl rfl) (orc_cons (la_szPuzzle_c k) (orc_cons (la_toPuzzle_c k) (orc_cons (sp_FirstSolved_c k) (orc_cons (im_FirstSolved_c k) orc_nil)))) Tryd.func10 (by kernel_rfl) rfl (by kernel_rfl) (by decide) rfl rfl (by kernel_rfl) (by kernel_rfl) (by kernel_rfl) (fun x _ h => (la_FnExactFirstSolved_ev k x.1 x.2.1).trans h)
end Ev
/- The plain law of FirstSolved. -/
namespace Ev
open Go Go.Proofs
theorem idxSt_loop (k : Nat) (p : tState.in → Bool) (f : tState.in × Unit → Option Bool) (hf : ∀ x, f (x, ()) = some (p x)) (l : List tState.in) (hl : l.length ≤ 1000000000) : ∀ (d n j : Nat), l.length = j + d → d < n →
    slices_IndexFunc_impl_State_impl_State_l2 k n l f (l.length : Int) (j : Int) = some (if fidx p (l.drop j) = -1 then -1 else (j : Int) + fidx p (l.drop j))
  | 0, n + 1, j, h, _ => by
    show slices_IndexFunc_impl_State_impl_State_l2s k _ _ _ _ _ = _
    unfold slices_IndexFunc_impl_State_impl_State_l2s
    rw [if_neg (ndt (by omega)), List.drop_of_length_le (by omega)]; rfl
  | d + 1, n + 1, j, h, hn => by
    show slices_IndexFunc_impl_State_impl_State_l2s k _ _ _ _ _ = _
    unfold slices_IndexFunc_impl_State_impl_State_l2s
    have hd := getD_drop l j sz0 (by omega)
    have e1 : rdT tState l (j : Int) = l.getD j sz0 := rfl
    have ih := idxSt_loop k p f hf l hl d n (j + 1) (by omega) (by omega)
    have hg := fidx_ge p (l.drop (j + 1))
    rw [if_pos (dt (by omega)), inb_eq (by omega), e1, hf, Option.bind_some, hd]
    unfold fidx
    by_cases hp : p (l.getD j sz0) = true
    · rw [if_pos hp, if_pos hp, if_neg (by omega)]; simp
    · rw [if_neg hp, if_neg hp, wr (by omega)]
      refine (show _ = _ from ih).trans ?_
      by_cases h2 : fidx p (l.drop (j + 1)) = -1
      · rw [if_pos h2, if_pos h2, if_pos rfl]
      · rw [if_neg h2, if_neg h2, if_neg (by omega)]; congr 1; omega
theorem firstSolved_loop (k : Nat) (p : tPuzzle.in) (s : List Int) (l : List tState.in) (hl : l.length ≤ 100) (hs : l.length = s.length + 1) : ∀ (d n j : Nat), l.length = j + d → d < n →
    sp_FirstSolved_l7 k n s p l (l.length : Int) (j : Int) = some (if fidx (goal p) (l.drop j) = -1 then ([], false, ()) else (s.take ((j : Int) + fidx (goal p) (l.drop j)).toNat, true, ()))
  | 0, n + 1, j, h, _ => by
    show sp_FirstSolved_l7s k _ _ _ _ _ _ = _
    unfold sp_FirstSolved_l7s
    rw [if_neg (ndt (by omega)), List.drop_of_length_le (by omega)]; rfl
  | d + 1, n + 1, j, h, hn => by
    show sp_FirstSolved_l7s k _ _ _ _ _ _ = _
    unfold sp_FirstSolved_l7s
    have hd := getD_drop l j sz0 (by omega)
    have e1 : l.getD (j : Int).toNat ((0 : Int), (0 : Int), ((0 : Int), (0 : Int), (0 : Int), (0 : Int), (0 : Int), (0 : Int), ()), ()) = l.getD j sz0 := rfl
    have ih := firstSolved_loop k p s l hl hs d n (j + 1) (by omega) (by omega)
    have hg := fidx_ge (goal p) (l.drop (j + 1))
    rw [if_pos (dt (by omega)), inb_eq (by omega), e1, puDone_is, Option.bind_some, hd]
    unfold fidx
    by_cases hp : goal p (l.getD j sz0) = true
    · rw [if_pos hp, if_pos hp, if_neg (by omega), cut_eq (by omega)]; simp
    · rw [if_neg hp, if_neg hp, wr (by omega)]
      refine (show _ = _ from ih).trans ?_
      by_cases h2 : fidx (goal p) (l.drop (j + 1)) = -1
      · rw [if_pos h2, if_pos h2, if_pos rfl]
      · rw [if_neg h2, if_neg h2, if_neg (by omega)]
        have : ((j + 1 : Nat) : Int) + fidx (goal p) (l.drop (j + 1)) = (j : Int) + (fidx (goal p) (l.drop (j + 1)) + 1) := by omega
        rw [this]
theorem firstSolved_is (k : Nat) (hk : 2097152 ≤ k) (p : tPuzzle.in) (hs : List.length p.1 ≤ 1048576) (s : List Int) : ∃ r, sp_FirstSolved k p s = some r ∧ im_FirstSolved k p s = some r := by
  have e1 : sp_FirstSolved k p s = (sp_puGood k p).bind _ := rfl
  have e2 : im_FirstSolved k p s = (im_statesAlong k p.1 p.2.1 s).bind _ := rfl
  rw [e1, e2]
  rcases solve_is k hk p hs s with ⟨g, w, h, -, -, h1, h2, h3, h4, h5, h6⟩ | ⟨h3, h4, l, b, h5⟩ | ⟨h3, h4, l, h5, h6⟩
  · have hl := of_decide_eq_true h1
    rw [h3, h4, h5, Option.bind_some, Option.bind_some, Option.bind_some, if_neg (by decide), if_neg (by decide), diWord_is k hk, Option.bind_some, h1, if_neg (by decide), h6, Option.bind_some, if_neg (show ¬((!true) = true) by decide), if_neg (show ¬((!true) = true) by decide)]
    have a1 := firstSolved_loop k p s (alo g p.2.1 s) (by omega) h2 (alo g p.2.1 s).length k 0 (by omega) (by omega)
    have a2 := idxSt_loop k (goal p) (fun (a3 : (tState.in × Unit)) => (im_Puzzle_isGoal k p a3.1).bind fun r4 => some r4) (fun x => by
      show Option.bind (im_Puzzle_isGoal k p x) _ = _
      rw [isGoal_is]; rfl) (alo g p.2.1 s) (by omega) (alo g p.2.1 s).length k 0 (by omega) (by omega)
    refine ⟨_, a1, ?_⟩
    have a3 : slices_IndexFunc_impl_State_impl_State k (alo g p.2.1 s) (fun (a3 : (tState.in × Unit)) => (im_Puzzle_isGoal k p a3.1).bind fun r4 => some r4) = _ := a2
    rw [a3, Option.bind_some, List.drop_zero]
    have hg := fidx_ge (goal p) (alo g p.2.1 s)
    have hlt := fidx_lt (goal p) (alo g p.2.1 s)
    by_cases hf : fidx (goal p) (alo g p.2.1 s) = -1
    · rw [if_pos hf, if_pos hf, if_pos (by decide)]
    · rw [if_neg hf, if_neg hf, if_neg (ndt (by omega)), cut_eq (by omega)]
      simp
  · rw [h3, h4, h5]; exact ⟨_, rfl, rfl⟩
  · rw [h3, h4, h5, Option.bind_some, Option.bind_some, Option.bind_some, if_neg (by decide), if_neg (by decide), diWord_is k hk, Option.bind_some]
    cases wordOk s with
    | false => exact ⟨_, rfl, rfl⟩
    | true =>
      rw [if_neg (by decide), h6]
      exact ⟨_, rfl, rfl⟩
theorem law_FirstSolved (k : Nat) (hk : 2097152 ≤ k) (x : tPuzzle.in) (h : tPuzzle.InR x) (y : List Int) : la_FnExactFirstSolved k x y = some true := by
  show (if decide ((1048576 : Int) < (y.length : Int)) = true then some true else _) = _
  by_cases hy : (1048576 : Int) < (y.length : Int)
  · rw [if_pos (dt hy)]
  · rw [if_neg (ndt hy)]
    refine guard_puzzle k x h _ fun hl => ?_
    obtain ⟨r, e1, e2⟩ := firstSolved_is k hk x hl y
    show ((sp_FirstSolved k x y).bind fun r3 => (im_FirstSolved k x y).bind fun r5 => _) = _
    rw [e1, e2, Option.bind_some, Option.bind_some, if_neg (nnd rfl), if_neg (nnd rfl)]
theorem pure_FnExactFirstSolved (x : tPuzzle.in) (y : List Int) (h : tPuzzle.InR x) (_ : T.s.InR y) : ∃ k, la_FnExactFirstSolved k x y = some true := ⟨2097152, law_FirstSolved 2097152 (Nat.le_refl _) x h y⟩
end Ev
/- loop.example/g01207/spec.puStates -/
namespace Ev
open Go Go.Proofs
/-! spec.puStates -/
@[reducible] def sp_puStates_l6_L : List (Nat × Sh) := [(1, (.bx 42 (.v tPuzzle))), (7, (.o 101 twyNode)), (23, (.al 7)), (24, (.v I)), (25, (.v I))]
def sp_puStates_l6s (k : Nat) (g_l6 : tPuzzle.in → (List twyNode.in) → Unit → Int → Int → Option ((List twyNode.in) × (Int × (Bool × Unit)))) (x1 : tPuzzle.in) (x7 : (List twyNode.in)) (_x23 : Unit) (x24 : Int) (x25 : Int) : Option ((List twyNode.in) × (Int × (Bool × Unit))) :=
  if (decide (x25 < x24)) = true then
    inb x25 x7.length (
      (sp_puDone k x1 (x7.getD (x25).toNat (((0 : Int), (0 : Int), ((0 : Int), (0 : Int), (0 : Int), (0 : Int), (0 : Int), (0 : Int), ()), ()), (0 : Int), (0 : Int), (0 : Int), (0 : Int), (List.replicate 4 (0 : Int)), ())).1).bind fun r4 =>
      if r4 = true then
        some (x7, (x7.getD (x25).toNat (((0 : Int), (0 : Int), ((0 : Int), (0 : Int), (0 : Int), (0 : Int), (0 : Int), (0 : Int), ()), ()), (0 : Int), (0 : Int), (0 : Int), (0 : Int), (List.replicate 4 (0 : Int)), ())).2.1, (decide ((x7.getD (x25).toNat (((0 : Int), (0 : Int), ((0 : Int), (0 : Int), (0 : Int), (0 : Int), (0 : Int), (0 : Int), ()), ()), (0 : Int), (0 : Int), (0 : Int), (0 : Int), (List.replicate 4 (0 : Int)), ())).2.1 ≤ (60 : Int))), ())
      else
        g_l6 x1 x7 () x24 (IntKind.i64.wrap (x25 + (1 : Int))))
  else
    some (([] : List twyNode.in), (0 : Int), false, ())
def sp_puStates_l6 (k : Nat)  : Nat → tPuzzle.in → (List twyNode.in) → Unit → Int → Int → Option ((List twyNode.in) × (Int × (Bool × Unit)))
  | 0, _, _, _, _, _ => none
  | n + 1, x1, x7, x23, x24, x25 => sp_puStates_l6s k (sp_puStates_l6 k n) x1 x7 x23 x24 x25
def sp_puStates_s (k : Nat) (c_l6 : tPuzzle.in → (List twyNode.in) → Unit → Int → Int → Option ((List twyNode.in) × (Int × (Bool × Unit)))) (x0 : tPuzzle.in) : Option ((List twyNode.in) × (Int × (Bool × Unit))) :=
  (sp_puGood k x0).bind fun r1 =>
  if (!r1) = true then
    some (([] : List twyNode.in), (0 : Int), false, ())
  else
    (sp_boRead k x0.1).bind fun r2 =>
    (sp_wyAll k r2.1 x0.2.1).bind fun r3 =>
    c_l6 x0 r3 () (r3.length : Int) (0 : Int)
def sp_puStates (k : Nat) (x0 : tPuzzle.in) : Option ((List twyNode.in) × (Int × (Bool × Unit))) := sp_puStates_s k (sp_puStates_l6 k k) x0
noncomputable def sp_puStates_O (k : Nat) : Orc := { ps := [.v tPuzzle], rt := (.pr (.o 101 twyNode) (.pr (.v I) (.pr (.v T.b) .un))), F := fun x => sp_puStates k x.1 }
noncomputable def sp_puStates_E (k : Nat) : Env := { ty := tabTy Tryd_tab, ds := tabDs Tryd_tab, rounds := k, nt := 40, orc := fun g => if Nat.beq g 40 = true then some (sp_puGood_O k) else (if Nat.beq g 43 = true then some (sp_boRead_O k) else (if Nat.beq g 56 = true then some (sp_puDone_O k) else (if Nat.beq g 81 = true then some (sp_wyAll_O k) else (none)))), lp := fun i => if Nat.beq i 6 = true then some sp_puStates_l6_L else (none), ct := fun _ => none, plan := fun i => if Nat.beq i 9 = true then some [(0, []), (1, []), (2, []), (3, []), (4, []), (5, []), (6, []), (7, []), (8, [])] else (none) }
noncomputable def sp_puStates_fin (k : Nat) : Kn ((List twyNode.in) × (Int × (Bool × Unit))) := finish (sp_puStates_E k) [.v tPuzzle] (.pr (.o 101 twyNode) (.pr (.v I) (.pr (.v T.b) .un))) Tryd.f61.results.toList
noncomputable def sp_puStates_l6_e (k : Nat)  (n : Nat) (x1 : tPuzzle.in) (x7 : (List twyNode.in)) (x23 : Unit) (x24 : Int) (x25 : Int) : Option ((List twyNode.in) × (Int × (Bool × Unit))) := loopF (sp_puStates_E k) sp_puStates_l6_L (ev (sp_puStates_E k) (sub (bodyOf Tryd.f61) [.r, .r, .r, .r, .l, .r, .c, .c])) (kont (sp_puStates_E k) (bodyOf Tryd.f61) [.r, .r, .r, .r, .l, .r, .c] [] (sp_puStates_fin k)) n (x1, x7, x23, x24, x25, ())
theorem sp_puStates_l6_z (k : Nat)  (x1 : tPuzzle.in) (x7 : (List twyNode.in)) (x23 : Unit) (x24 : Int) (x25 : Int) : sp_puStates_l6_e k 0 x1 x7 x23 x24 x25 = none := by kernel_rfl
theorem sp_puStates_l6_st (k : Nat)  (n : Nat) (x1 : tPuzzle.in) (x7 : (List twyNode.in)) (x23 : Unit) (x24 : Int) (x25 : Int) : sp_puStates_l6_e k (n + 1) x1 x7 x23 x24 x25 = sp_puStates_l6s k (sp_puStates_l6_e k n) x1 x7 x23 x24 x25 := by kernel_rfl
theorem sp_puStates_l6_ev (k : Nat)  : ∀ (n : Nat) (x1 : tPuzzle.in) (x7 : (List twyNode.in)) (x23 : Unit) (x24 : Int) (x25 : Int), sp_puStates_l6_e k n x1 x7 x23 x24 x25 = sp_puStates_l6 k n x1 x7 x23 x24 x25
  | 0, x1, x7, x23, x24, x25 => sp_puStates_l6_z k x1 x7 x23 x24 x25
  | n + 1, x1, x7, x23, x24, x25 => by
    have ih : (sp_puStates_l6_e k n) = sp_puStates_l6 k n := by funext y0 y1 y2 y3 y4; exact sp_puStates_l6_ev k n y0 y1 y2 y3 y4
    rw [sp_puStates_l6_st, ih]; rfl
theorem sp_puStates_st (k : Nat) (x0 : tPuzzle.in) : evFun (sp_puStates_E k) [.v tPuzzle] (.pr (.o 101 twyNode) (.pr (.v I) (.pr (.v T.b) .un))) Tryd.f61 (x0, ()) = sp_puStates_s k (sp_puStates_l6_e k k) x0 := by kernel_rfl
theorem sp_puStates_ev (k : Nat) (x0 : tPuzzle.in) : evFun (sp_puStates_E k) [.v tPuzzle] (.pr (.o 101 twyNode) (.pr (.v I) (.pr (.v T.b) .un))) Tryd.f61 (x0, ()) = sp_puStates k x0 := by
  have h0 : (sp_puStates_l6_e k k) = (sp_puStates_l6 k k) := by funext y0 y1 y2 y3 y4; exact sp_puStates_l6_ev k k y0 y1 y2 y3 y4
  rw [sp_puStates_st, h0]; rfl
theorem sp_puStates_c (k : Nat) : Contract Tryd.prog 61 (sp_puStates_O k) :=
  fun_sound (c := bodyOf Tryd.f61) (tab_ok Tryd_tab_ok rfl rfl) (orc_cons (sp_puGood_c k) (orc_cons (sp_boRead_c k) (orc_cons (sp_puDone_c k) (orc_cons (sp_wyAll_c k) orc_nil)))) Tryd.func61 (by kernel_rfl) rfl (by kernel_rfl) (by decide) rfl rfl (by kernel_rfl) (by kernel_rfl) (by kernel_rfl) (fun x _ h => (sp_puStates_ev k x.1).trans h)
end Ev
/- loop.example/g01207/spec.LengthOf -/
namespace Ev
open Go Go.Proofs
/-! spec.LengthOf -/
def sp_LengthOf_s (k : Nat) (x0 : tPuzzle.in) : Option (Int × (Bool × Unit)) :=
  (sp_puStates k x0).bind fun r1 =>
  if (!r1.2.2.1) = true then
    some ((0 : Int), false, ())
  else
    some (r1.2.1, true, ())
def sp_LengthOf (k : Nat) (x0 : tPuzzle.in) : Option (Int × (Bool × Unit)) := sp_LengthOf_s k x0
noncomputable def sp_LengthOf_O (k : Nat) : Orc := { ps := [.v tPuzzle], rt := (.pr (.v I) (.pr (.v T.b) .un)), F := fun x => sp_LengthOf k x.1 }
noncomputable def sp_LengthOf_E (k : Nat) : Env := { ty := tabTy Tryd_tab, ds := tabDs Tryd_tab, rounds := k, nt := 16, orc := fun g => if Nat.beq g 61 = true then some (sp_puStates_O k) else (none), lp := fun _ => none, ct := fun _ => none, plan := fun _ => none }
noncomputable def sp_LengthOf_fin (k : Nat) : Kn (Int × (Bool × Unit)) := finish (sp_LengthOf_E k) [.v tPuzzle] (.pr (.v I) (.pr (.v T.b) .un)) Tryd.f33.results.toList
theorem sp_LengthOf_st (k : Nat) (x0 : tPuzzle.in) : evFun (sp_LengthOf_E k) [.v tPuzzle] (.pr (.v I) (.pr (.v T.b) .un)) Tryd.f33 (x0, ()) = sp_LengthOf_s k x0 := by kernel_rfl
theorem sp_LengthOf_ev (k : Nat) (x0 : tPuzzle.in) : evFun (sp_LengthOf_E k) [.v tPuzzle] (.pr (.v I) (.pr (.v T.b) .un)) Tryd.f33 (x0, ()) = sp_LengthOf k x0 := by
  skip
  rw [sp_LengthOf_st]; rfl
theorem sp_LengthOf_c (k : Nat) : Contract Tryd.prog 33 (sp_LengthOf_O k) :=
  fun_sound (c := bodyOf Tryd.f33) (tab_ok Tryd_tab_ok rfl rfl) (orc_cons (sp_puStates_c k) orc_nil) Tryd.func33 (by kernel_rfl) rfl (by kernel_rfl) (by decide) rfl rfl (by kernel_rfl) (by kernel_rfl) (by kernel_rfl) (fun x _ h => (sp_LengthOf_ev k x.1).trans h)
end Ev
/- loop.example/g01207/impl.reachOn -/
namespace Ev
open Go Go.Proofs
/-! impl.reachOn -/
def im_reachOn_s (k : Nat) (x0 : (List Int)) (x1 : tState.in) : Option ((Option treach.in) × (Bool × Unit)) :=
  (im_onBoard k x0 x1).bind fun r1 =>
  if (!r1.2.1) = true then
    some ((none : (Option treach.in)), false, ())
  else
    (im_reached k x1 (fun (a2 : (tState.in × (Int × Unit))) => (im_grid_roll k r1.1 a2.1 a2.2.1).bind fun r3 => some (r3.1, r3.2.1, ()))).bind fun r4 =>
    some (r4, true, ())
def im_reachOn (k : Nat) (x0 : (List Int)) (x1 : tState.in) : Option ((Option treach.in) × (Bool × Unit)) := im_reachOn_s k x0 x1
noncomputable def im_reachOn_O (k : Nat) : Orc := { ps := [.v T.s, .v tState], rt := (.pr (.v (.pt treach)) (.pr (.v T.b) .un)), F := fun x => im_reachOn k x.1 x.2.1 }
noncomputable def im_reachOn_E (k : Nat) : Env := { ty := tabTy Tryd_tab, ds := tabDs Tryd_tab, rounds := k, nt := 20, orc := fun g => if Nat.beq g 39 = true then some (im_onBoard_O k) else (if Nat.beq g 105 = true then some (im_grid_roll_O k) else (if Nat.beq g 127 = true then some (im_reached_O k) else (none))), lp := fun _ => none, ct := fun _ => none, plan := fun _ => none }
noncomputable def im_reachOn_fin (k : Nat) : Kn ((Option treach.in) × (Bool × Unit)) := finish (im_reachOn_E k) [.v T.s, .v tState] (.pr (.v (.pt treach)) (.pr (.v T.b) .un)) Tryd.f108.results.toList
theorem im_reachOn_st (k : Nat) (x0 : (List Int)) (x1 : tState.in) : evFun (im_reachOn_E k) [.v T.s, .v tState] (.pr (.v (.pt treach)) (.pr (.v T.b) .un)) Tryd.f108 (x0, x1, ()) = im_reachOn_s k x0 x1 := by kernel_rfl
theorem im_reachOn_ev (k : Nat) (x0 : (List Int)) (x1 : tState.in) : evFun (im_reachOn_E k) [.v T.s, .v tState] (.pr (.v (.pt treach)) (.pr (.v T.b) .un)) Tryd.f108 (x0, x1, ()) = im_reachOn k x0 x1 := by
  skip
  rw [im_reachOn_st]; rfl
theorem im_reachOn_c (k : Nat) : Contract Tryd.prog 108 (im_reachOn_O k) :=
  fun_sound (c := bodyOf Tryd.f108) (tab_ok Tryd_tab_ok rfl rfl) (orc_cons (im_onBoard_c k) (orc_cons (im_grid_roll_c k) (orc_cons (im_reached_c k) orc_nil))) Tryd.func108 (by kernel_rfl) rfl (by kernel_rfl) (by decide) rfl rfl (by kernel_rfl) (by kernel_rfl) (by kernel_rfl) (fun x _ h => (im_reachOn_ev k x.1 x.2.1).trans h)
end Ev
/- loop.example/g01207/impl.reachCell -/
namespace Ev
open Go Go.Proofs
/-! impl.reachCell -/
def im_reachCell_s (k : Nat) (x0 : (List Int)) (x1 : tState.in) (x2 : Int) (x3 : Int) : Option ((Option treach.in) × (Bool × Unit)) :=
  (im_reachOn k x0 x1).bind fun r1 =>
  (im_board k x0).bind fun r2 =>
  if (!r1.2.1) = true then
    some ((none : (Option treach.in)), false, ())
  else
    (im_grid_has k r2.1 x2 x3).bind fun r3 =>
    if (!r3) = true then
      some ((none : (Option treach.in)), false, ())
    else
      some (r1.1, true, ())
def im_reachCell (k : Nat) (x0 : (List Int)) (x1 : tState.in) (x2 : Int) (x3 : Int) : Option ((Option treach.in) × (Bool × Unit)) := im_reachCell_s k x0 x1 x2 x3
noncomputable def im_reachCell_O (k : Nat) : Orc := { ps := [.v T.s, .v tState, .v I, .v I], rt := (.pr (.v (.pt treach)) (.pr (.v T.b) .un)), F := fun x => im_reachCell k x.1 x.2.1 x.2.2.1 x.2.2.2.1 }
noncomputable def im_reachCell_E (k : Nat) : Env := { ty := tabTy Tryd_tab, ds := tabDs Tryd_tab, rounds := k, nt := 35, orc := fun g => if Nat.beq g 46 = true then some (im_board_O k) else (if Nat.beq g 70 = true then some (im_grid_has_O k) else (if Nat.beq g 108 = true then some (im_reachOn_O k) else (none))), lp := fun _ => none, ct := fun _ => none, plan := fun _ => none }
noncomputable def im_reachCell_fin (k : Nat) : Kn ((Option treach.in) × (Bool × Unit)) := finish (im_reachCell_E k) [.v T.s, .v tState, .v I, .v I] (.pr (.v (.pt treach)) (.pr (.v T.b) .un)) Tryd.f83.results.toList
theorem im_reachCell_st (k : Nat) (x0 : (List Int)) (x1 : tState.in) (x2 : Int) (x3 : Int) : evFun (im_reachCell_E k) [.v T.s, .v tState, .v I, .v I] (.pr (.v (.pt treach)) (.pr (.v T.b) .un)) Tryd.f83 (x0, x1, x2, x3, ()) = im_reachCell_s k x0 x1 x2 x3 := by kernel_rfl
theorem im_reachCell_ev (k : Nat) (x0 : (List Int)) (x1 : tState.in) (x2 : Int) (x3 : Int) : evFun (im_reachCell_E k) [.v T.s, .v tState, .v I, .v I] (.pr (.v (.pt treach)) (.pr (.v T.b) .un)) Tryd.f83 (x0, x1, x2, x3, ()) = im_reachCell k x0 x1 x2 x3 := by
  skip
  rw [im_reachCell_st]; rfl
theorem im_reachCell_c (k : Nat) : Contract Tryd.prog 83 (im_reachCell_O k) :=
  fun_sound (c := bodyOf Tryd.f83) (tab_ok Tryd_tab_ok rfl rfl) (orc_cons (im_board_c k) (orc_cons (im_grid_has_c k) (orc_cons (im_reachOn_c k) orc_nil))) Tryd.func83 (by kernel_rfl) rfl (by kernel_rfl) (by decide) rfl rfl (by kernel_rfl) (by kernel_rfl) (by kernel_rfl) (fun x _ h => (im_reachCell_ev k x.1 x.2.1 x.2.2.1 x.2.2.2.1).trans h)
end Ev
/- slices.Reverse[[]byte,byte] -/
namespace Ev
open Go Go.Proofs
/-! slices.Reverse[[]byte,byte] -/
@[reducible] def slices_Reverse_byte_byte_l1_L : List (Nat × Sh) := [(0, (.o 5 (.i .u8))), (2, (.v I)), (3, (.v I))]
def slices_Reverse_byte_byte_l1s (_k : Nat) (g_l1 : (List Int) → Int → Int → Option (Unit × (List Int))) (x0 : (List Int)) (x2 : Int) (x3 : Int) : Option (Unit × (List Int)) :=
  if (decide (x2 < x3)) = true then
    inb x3 x0.length (
      inb x2 x0.length (
        inb x2 x0.length (
          inb x3 (x0.set (x2).toNat (x0.getD (x3).toNat (0 : Int))).length (
            g_l1 ((x0.set (x2).toNat (x0.getD (x3).toNat (0 : Int))).set (x3).toNat (x0.getD (x2).toNat (0 : Int))) (IntKind.i64.wrap (x2 + (1 : Int))) (IntKind.i64.wrap (x3 - (1 : Int)))))))
  else
    some ((), x0)
def slices_Reverse_byte_byte_l1 (k : Nat)  : Nat → (List Int) → Int → Int → Option (Unit × (List Int))
  | 0, _, _, _ => none
  | n + 1, x0, x2, x3 => slices_Reverse_byte_byte_l1s k (slices_Reverse_byte_byte_l1 k n) x0 x2 x3
def slices_Reverse_byte_byte_s (_k : Nat) (c_l1 : (List Int) → Int → Int → Option (Unit × (List Int))) (x0 : (List Int)) : Option (Unit × (List Int)) :=
  c_l1 x0 (0 : Int) (IntKind.i64.wrap ((x0.length : Int) - (1 : Int)))
def slices_Reverse_byte_byte (k : Nat) (x0 : (List Int)) : Option (Unit × (List Int)) := slices_Reverse_byte_byte_s k (slices_Reverse_byte_byte_l1 k k) x0
noncomputable def slices_Reverse_byte_byte_O (k : Nat) : Orc := { ps := [.io 5 (.i .u8)], rt := .un, F := fun x => slices_Reverse_byte_byte k x.1 }
noncomputable def slices_Reverse_byte_byte_E (k : Nat) : Env := { ty := tabTy Tryd_tab, ds := tabDs Tryd_tab, rounds := k, nt := 28, orc := fun _ => none, lp := fun i => if Nat.beq i 1 = true then some slices_Reverse_byte_byte_l1_L else (none), ct := fun _ => none, plan := fun i => if Nat.beq i 3 = true then some [(0, []), (1, []), (2, []), (3, []), (4, []), (5, []), (6, []), (7, []), (8, []), (9, []), (10, []), (11, []), (12, []), (13, []), (14, []), (15, [])] else (none) }
noncomputable def slices_Reverse_byte_byte_fin (k : Nat) : Kn (Unit × (List Int)) := finish (slices_Reverse_byte_byte_E k) [.io 5 (.i .u8)] .un Tryd.f128.results.toList
noncomputable def slices_Reverse_byte_byte_l1_e (k : Nat)  (n : Nat) (x0 : (List Int)) (x2 : Int) (x3 : Int) : Option (Unit × (List Int)) := loopF (slices_Reverse_byte_byte_E k) slices_Reverse_byte_byte_l1_L (ev (slices_Reverse_byte_byte_E k) (sub (bodyOf Tryd.f128) [.r, .c, .c])) (kont (slices_Reverse_byte_byte_E k) (bodyOf Tryd.f128) [.r, .c] [] (slices_Reverse_byte_byte_fin k)) n (x0, x2, x3, ())
theorem slices_Reverse_byte_byte_l1_z (k : Nat)  (x0 : (List Int)) (x2 : Int) (x3 : Int) : slices_Reverse_byte_byte_l1_e k 0 x0 x2 x3 = none := by kernel_rfl
theorem slices_Reverse_byte_byte_l1_st (k : Nat)  (n : Nat) (x0 : (List Int)) (x2 : Int) (x3 : Int) : slices_Reverse_byte_byte_l1_e k (n + 1) x0 x2 x3 = slices_Reverse_byte_byte_l1s k (slices_Reverse_byte_byte_l1_e k n) x0 x2 x3 := by kernel_rfl
theorem slices_Reverse_byte_byte_l1_ev (k : Nat)  : ∀ (n : Nat) (x0 : (List Int)) (x2 : Int) (x3 : Int), slices_Reverse_byte_byte_l1_e k n x0 x2 x3 = slices_Reverse_byte_byte_l1 k n x0 x2 x3
  | 0, x0, x2, x3 => slices_Reverse_byte_byte_l1_z k x0 x2 x3
  | n + 1, x0, x2, x3 => by
    have ih : (slices_Reverse_byte_byte_l1_e k n) = slices_Reverse_byte_byte_l1 k n := by funext y0 y1 y2; exact slices_Reverse_byte_byte_l1_ev k n y0 y1 y2
    rw [slices_Reverse_byte_byte_l1_st, ih]; rfl
theorem slices_Reverse_byte_byte_st (k : Nat) (x0 : (List Int)) : evFun (slices_Reverse_byte_byte_E k) [.io 5 (.i .u8)] .un Tryd.f128 (x0, ()) = slices_Reverse_byte_byte_s k (slices_Reverse_byte_byte_l1_e k k) x0 := by kernel_rfl
theorem slices_Reverse_byte_byte_ev (k : Nat) (x0 : (List Int)) : evFun (slices_Reverse_byte_byte_E k) [.io 5 (.i .u8)] .un Tryd.f128 (x0, ()) = slices_Reverse_byte_byte k x0 := by
  have h0 : (slices_Reverse_byte_byte_l1_e k k) = (slices_Reverse_byte_byte_l1 k k) := by funext y0 y1 y2; exact slices_Reverse_byte_byte_l1_ev k k y0 y1 y2
  rw [slices_Reverse_byte_byte_st, h0]; rfl
theorem slices_Reverse_byte_byte_c (k : Nat) : Contract Tryd.prog 128 (slices_Reverse_byte_byte_O k) :=
  fun_sound (c := bodyOf Tryd.f128) (tab_ok Tryd_tab_ok rfl rfl) orc_nil Tryd.func128 (by kernel_rfl) rfl (by kernel_rfl) (by decide) rfl rfl (by kernel_rfl) (by kernel_rfl) (by kernel_rfl) (fun x _ h => (slices_Reverse_byte_byte_ev k x.1).trans h)
end Ev
/- (*loop.example/g01207/impl.reach).word -/
namespace Ev
open Go Go.Proofs
/-! (*impl.reach).word -/
@[reducible] def im_reach_word_l2_L : List (Nat × Sh) := [(0, (.v (.pt treach))), (1, (.v I)), (6, (.o 5 (.i .u8)))]
def im_reach_word_l2s (k : Nat) (g_l2 : (Option treach.in) → Int → (List Int) → Option ((List Int) × (Bool × Unit))) (x0 : (Option treach.in)) (x1 : Int) (x6 : (List Int)) : Option ((List Int) × (Bool × Unit)) :=
  if (decide ((0 : Int) < x1)) = true then
    (x0).bind fun v1 =>
    inb x1 v1.2.2.1.length (
      if x6.length + ([(rdT (.i .u8) v1.2.2.1 x1)] : List Int).length ≤ 17179869184 then (
        (x0).bind fun v2 =>
        inb x1 v2.2.1.length (
          g_l2 x0 (rdT I v2.2.1 x1) (x6 ++ ([(rdT (.i .u8) v1.2.2.1 x1)] : List Int)))) else none)
  else
    (slices_Reverse_byte_byte k x6).bind fun r3 =>
    if (decide ((60 : Int) < (r3.2.length : Int))) = true then
      some (([] : List Int), false, ())
    else
      some (r3.2, true, ())
def im_reach_word_l2 (k : Nat)  : Nat → (Option treach.in) → Int → (List Int) → Option ((List Int) × (Bool × Unit))
  | 0, _, _, _ => none
  | n + 1, x0, x1, x6 => im_reach_word_l2s k (im_reach_word_l2 k n) x0 x1 x6
def im_reach_word_s (_k : Nat) (c_l2 : (Option treach.in) → Int → (List Int) → Option ((List Int) × (Bool × Unit))) (x0 : (Option treach.in)) (x1 : Int) : Option ((List Int) × (Bool × Unit)) :=
  c_l2 x0 x1 ([] : List Int)
def im_reach_word (k : Nat) (x0 : (Option treach.in)) (x1 : Int) : Option ((List Int) × (Bool × Unit)) := im_reach_word_s k (im_reach_word_l2 k k) x0 x1
noncomputable def im_reach_word_O (k : Nat) : Orc := { ps := [.v (.pt treach), .v I], rt := (.pr (.v T.s) (.pr (.v T.b) .un)), F := fun x => im_reach_word k x.1 x.2.1 }
noncomputable def im_reach_word_E (k : Nat) : Env := { ty := tabTy Tryd_tab, ds := tabDs Tryd_tab, rounds := k, nt := 34, orc := fun g => if Nat.beq g 128 = true then some (slices_Reverse_byte_byte_O k) else (none), lp := fun i => if Nat.beq i 2 = true then some im_reach_word_l2_L else (none), ct := fun _ => none, plan := fun _ => none }
noncomputable def im_reach_word_fin (k : Nat) : Kn ((List Int) × (Bool × Unit)) := finish (im_reach_word_E k) [.v (.pt treach), .v I] (.pr (.v T.s) (.pr (.v T.b) .un)) Tryd.f109.results.toList
noncomputable def im_reach_word_l2_e (k : Nat)  (n : Nat) (x0 : (Option treach.in)) (x1 : Int) (x6 : (List Int)) : Option ((List Int) × (Bool × Unit)) := loopF (im_reach_word_E k) im_reach_word_l2_L (ev (im_reach_word_E k) (sub (bodyOf Tryd.f109) [.r, .r, .l, .c, .c])) (kont (im_reach_word_E k) (bodyOf Tryd.f109) [.r, .r, .l, .c] [] (im_reach_word_fin k)) n (x0, x1, x6, ())
theorem im_reach_word_l2_z (k : Nat)  (x0 : (Option treach.in)) (x1 : Int) (x6 : (List Int)) : im_reach_word_l2_e k 0 x0 x1 x6 = none := by kernel_rfl
theorem im_reach_word_l2_st (k : Nat)  (n : Nat) (x0 : (Option treach.in)) (x1 : Int) (x6 : (List Int)) : im_reach_word_l2_e k (n + 1) x0 x1 x6 = im_reach_word_l2s k (im_reach_word_l2_e k n) x0 x1 x6 := by kernel_rfl
theorem im_reach_word_l2_ev (k : Nat)  : ∀ (n : Nat) (x0 : (Option treach.in)) (x1 : Int) (x6 : (List Int)), im_reach_word_l2_e k n x0 x1 x6 = im_reach_word_l2 k n x0 x1 x6
  | 0, x0, x1, x6 => im_reach_word_l2_z k x0 x1 x6
  | n + 1, x0, x1, x6 => by
    have ih : (im_reach_word_l2_e k n) = im_reach_word_l2 k n := by funext y0 y1 y2; exact im_reach_word_l2_ev k n y0 y1 y2
    rw [im_reach_word_l2_st, ih]; rfl
theorem im_reach_word_st (k : Nat) (x0 : (Option treach.in)) (x1 : Int) : evFun (im_reach_word_E k) [.v (.pt treach), .v I] (.pr (.v T.s) (.pr (.v T.b) .un)) Tryd.f109 (x0, x1, ()) = im_reach_word_s k (im_reach_word_l2_e k k) x0 x1 := by kernel_rfl
theorem im_reach_word_ev (k : Nat) (x0 : (Option treach.in)) (x1 : Int) : evFun (im_reach_word_E k) [.v (.pt treach), .v I] (.pr (.v T.s) (.pr (.v T.b) .un)) Tryd.f109 (x0, x1, ()) = im_reach_word k x0 x1 := by
  have h0 : (im_reach_word_l2_e k k) = (im_reach_word_l2 k k) := by funext y0 y1 y2; exact im_reach_word_l2_ev k k y0 y1 y2
  rw [im_reach_word_st, h0]; rfl
theorem im_reach_word_c (k : Nat) : Contract Tryd.prog 109 (im_reach_word_O k) :=
  fun_sound (c := bodyOf Tryd.f109) (tab_ok Tryd_tab_ok rfl rfl) (orc_cons (slices_Reverse_byte_byte_c k) orc_nil) Tryd.func109 (by kernel_rfl) rfl (by kernel_rfl) (by decide) rfl rfl (by kernel_rfl) (by kernel_rfl) (by kernel_rfl) (fun x _ h => (im_reach_word_ev k x.1 x.2.1).trans h)
end Ev
/- (*loop.example/g01207/impl.reach).wordTo -/
namespace Ev
open Go Go.Proofs
/-! (*impl.reach).wordTo -/
def im_reach_wordTo_s (k : Nat) (x0 : (Option treach.in)) (x1 : ((tState.in × Unit) → Option Bool)) : Option ((List Int) × (Bool × Unit)) :=
  (x0).bind fun v1 =>
  (slices_IndexFunc_impl_State_impl_State k v1.1 x1).bind fun r2 =>
  if (decide (r2 < (0 : Int))) = true then
    some (([] : List Int), false, ())
  else
    (im_reach_word k x0 r2).bind fun r3 =>
    some (r3.1, r3.2.1, ())
def im_reach_wordTo (k : Nat) (x0 : (Option treach.in)) (x1 : ((tState.in × Unit) → Option Bool)) : Option ((List Int) × (Bool × Unit)) := im_reach_wordTo_s k x0 x1
noncomputable def im_reach_wordTo_O (k : Nat) : Orc := { ps := [.v (.pt treach), .v (.fn (.pr tState T.un) T.b)], rt := (.pr (.v T.s) (.pr (.v T.b) .un)), F := fun x => im_reach_wordTo k x.1 x.2.1 }
noncomputable def im_reach_wordTo_E (k : Nat) : Env := { ty := tabTy Tryd_tab, ds := tabDs Tryd_tab, rounds := k, nt := 20, orc := fun g => if Nat.beq g 60 = true then some (slices_IndexFunc_impl_State_impl_State_O k) else (if Nat.beq g 109 = true then some (im_reach_word_O k) else (none)), lp := fun _ => none, ct := fun _ => none, plan := fun _ => none }
noncomputable def im_reach_wordTo_fin (k : Nat) : Kn ((List Int) × (Bool × Unit)) := finish (im_reach_wordTo_E k) [.v (.pt treach), .v (.fn (.pr tState T.un) T.b)] (.pr (.v T.s) (.pr (.v T.b) .un)) Tryd.f84.results.toList
theorem im_reach_wordTo_st (k : Nat) (x0 : (Option treach.in)) (x1 : ((tState.in × Unit) → Option Bool)) : evFun (im_reach_wordTo_E k) [.v (.pt treach), .v (.fn (.pr tState T.un) T.b)] (.pr (.v T.s) (.pr (.v T.b) .un)) Tryd.f84 (x0, x1, ()) = im_reach_wordTo_s k x0 x1 := by kernel_rfl
theorem im_reach_wordTo_ev (k : Nat) (x0 : (Option treach.in)) (x1 : ((tState.in × Unit) → Option Bool)) : evFun (im_reach_wordTo_E k) [.v (.pt treach), .v (.fn (.pr tState T.un) T.b)] (.pr (.v T.s) (.pr (.v T.b) .un)) Tryd.f84 (x0, x1, ()) = im_reach_wordTo k x0 x1 := by
  skip
  rw [im_reach_wordTo_st]; rfl
theorem im_reach_wordTo_c (k : Nat) : Contract Tryd.prog 84 (im_reach_wordTo_O k) :=
  fun_sound (c := bodyOf Tryd.f84) (tab_ok Tryd_tab_ok rfl rfl) (orc_cons (slices_IndexFunc_impl_State_impl_State_c k) (orc_cons (im_reach_word_c k) orc_nil)) Tryd.func84 (by kernel_rfl) rfl (by kernel_rfl) (by decide) rfl rfl (by kernel_rfl) (by kernel_rfl) (by kernel_rfl) (fun x _ h => (im_reach_wordTo_ev k x.1 x.2.1).trans h)
end Ev
/- loop.example/g01207/impl.WayToTop$1 -/
namespace Ev
open Go Go.Proofs
/-! impl.WayToTop$1 -/
def im_WayToTop_1_s (k : Nat) (x0 : tState.in) (x1 : Int) (x2 : Int) (x3 : Int) : Option Bool :=
  (im_State_isAt k x0 x1 x2).bind fun r1 =>
  if r1 = true then
    some (decide (x0.2.2.1.1 = x3))
  else
    some false
def im_WayToTop_1 (k : Nat) (x0 : tState.in) (x1 : Int) (x2 : Int) (x3 : Int) : Option Bool := im_WayToTop_1_s k x0 x1 x2 x3
noncomputable def im_WayToTop_1_O (k : Nat) : Orc := { ps := [.v tState, .v (.pt I), .v (.pt I), .v (.pt I)], rt := (.v T.b), F := fun x => Option.bind x.2.1 fun y1 => Option.bind x.2.2.1 fun y2 => Option.bind x.2.2.2.1 fun y3 => im_WayToTop_1 k x.1 y1 y2 y3 }
noncomputable def im_WayToTop_1_E (k : Nat) : Env := { ty := tabTy Tryd_tab, ds := tabDs Tryd_tab, rounds := k, nt := 17, orc := fun g => if Nat.beq g 80 = true then some (im_State_isAt_O k) else (none), lp := fun _ => none, ct := fun _ => none, plan := fun _ => none }
noncomputable def im_WayToTop_1_fin (k : Nat) : Kn Bool := finish (im_WayToTop_1_E k) [.v tState, .v (.pt I), .v (.pt I), .v (.pt I)] (.v T.b) Tryd.f85.results.toList
theorem im_WayToTop_1_st (k : Nat) (x0 : tState.in) (x1 : Int) (x2 : Int) (x3 : Int) : evFun (im_WayToTop_1_E k) [.v tState, .v (.pt I), .v (.pt I), .v (.pt I)] (.v T.b) Tryd.f85 (x0, (some x1), (some x2), (some x3), ()) = im_WayToTop_1_s k x0 x1 x2 x3 := by kernel_rfl
theorem im_WayToTop_1_ev (k : Nat) (x0 : tState.in) (x1 : Int) (x2 : Int) (x3 : Int) : evFun (im_WayToTop_1_E k) [.v tState, .v (.pt I), .v (.pt I), .v (.pt I)] (.v T.b) Tryd.f85 (x0, (some x1), (some x2), (some x3), ()) = im_WayToTop_1 k x0 x1 x2 x3 := by
  skip
  rw [im_WayToTop_1_st]; rfl
theorem im_WayToTop_1_c (k : Nat) : Contract Tryd.prog 85 (im_WayToTop_1_O k) :=
  fun_sound (c := bodyOf Tryd.f85) (tab_ok Tryd_tab_ok rfl rfl) (orc_cons (im_State_isAt_c k) orc_nil) Tryd.func85 (by kernel_rfl) rfl (by kernel_rfl) (by decide) rfl rfl (by kernel_rfl) (by kernel_rfl) (by kernel_rfl) (fun x y h => by
    obtain ⟨z0, z1, z2, z3, _⟩ := x
    cases z1 with
    | none => cases h
    | some z1 =>
    cases z2 with
    | none => cases h
    | some z2 =>
    cases z3 with
    | none => cases h
    | some z3 =>
    exact (im_WayToTop_1_ev k z0 z1 z2 z3).trans h)
end Ev
/- loop.example/g01207/impl.WayToTop -/
namespace Ev
open Go Go.Proofs
/-! impl.WayToTop -/
def im_WayToTop_s (k : Nat) (x0 : (List Int)) (x1 : tState.in) (x2 : Int) (x3 : Int) (x4 : Int) : Option ((List Int) × (Bool × Unit)) :=
  (im_reachCell k x0 x1 x2 x3).bind fun r1 =>
  if (!r1.2.1) = true then
    some (([] : List Int), false, ())
  else
    (im_in k x4 (0 : Int) (9 : Int)).bind fun r2 =>
    if (!r2) = true then
      some (([] : List Int), false, ())
    else
      (im_reach_wordTo k r1.1 (fun (a3 : (tState.in × Unit)) => (im_WayToTop_1 k a3.1 x2 x3 x4).bind fun r4 => some r4)).bind fun r5 =>
      some (r5.1, r5.2.1, ())
def im_WayToTop (k : Nat) (x0 : (List Int)) (x1 : tState.in) (x2 : Int) (x3 : Int) (x4 : Int) : Option ((List Int) × (Bool × Unit)) := im_WayToTop_s k x0 x1 x2 x3 x4
noncomputable def im_WayToTop_O (k : Nat) : Orc := { ps := [.v T.s, .v tState, .v I, .v I, .v I], rt := (.pr (.v T.s) (.pr (.v T.b) .un)), F := fun x => im_WayToTop k x.1 x.2.1 x.2.2.1 x.2.2.2.1 x.2.2.2.2.1 }
noncomputable def im_WayToTop_E (k : Nat) : Env := { ty := tabTy Tryd_tab, ds := tabDs Tryd_tab, rounds := k, nt := 34, orc := fun g => if Nat.beq g 42 = true then some (im_in_O k) else (if Nat.beq g 83 = true then some (im_reachCell_O k) else (if Nat.beq g 84 = true then some (im_reach_wordTo_O k) else (if Nat.beq g 85 = true then some (im_WayToTop_1_O k) else (none)))), lp := fun _ => none, ct := fun _ => none, plan := fun _ => none }
noncomputable def im_WayToTop_fin (k : Nat) : Kn ((List Int) × (Bool × Unit)) := finish (im_WayToTop_E k) [.v T.s, .v tState, .v I, .v I, .v I] (.pr (.v T.s) (.pr (.v T.b) .un)) Tryd.f64.results.toList
theorem im_WayToTop_st (k : Nat) (x0 : (List Int)) (x1 : tState.in) (x2 : Int) (x3 : Int) (x4 : Int) : evFun (im_WayToTop_E k) [.v T.s, .v tState, .v I, .v I, .v I] (.pr (.v T.s) (.pr (.v T.b) .un)) Tryd.f64 (x0, x1, x2, x3, x4, ()) = im_WayToTop_s k x0 x1 x2 x3 x4 := by kernel_rfl
theorem im_WayToTop_ev (k : Nat) (x0 : (List Int)) (x1 : tState.in) (x2 : Int) (x3 : Int) (x4 : Int) : evFun (im_WayToTop_E k) [.v T.s, .v tState, .v I, .v I, .v I] (.pr (.v T.s) (.pr (.v T.b) .un)) Tryd.f64 (x0, x1, x2, x3, x4, ()) = im_WayToTop k x0 x1 x2 x3 x4 := by
  skip
  rw [im_WayToTop_st]; rfl
theorem im_WayToTop_c (k : Nat) : Contract Tryd.prog 64 (im_WayToTop_O k) :=
  fun_sound (c := bodyOf Tryd.f64) (tab_ok Tryd_tab_ok rfl rfl) (orc_cons (im_in_c k) (orc_cons (im_reachCell_c k) (orc_cons (im_reach_wordTo_c k) (orc_cons (im_WayToTop_1_c k) orc_nil)))) Tryd.func64 (by kernel_rfl) rfl (by kernel_rfl) (by decide) rfl rfl (by kernel_rfl) (by kernel_rfl) (by kernel_rfl) (fun x _ h => (im_WayToTop_ev k x.1 x.2.1 x.2.2.1 x.2.2.2.1 x.2.2.2.2.1).trans h)
end Ev
/- loop.example/g01207/impl.SolutionOf -/
namespace Ev
open Go Go.Proofs
/-! impl.SolutionOf -/
def im_SolutionOf_s (k : Nat) (x0 : tPuzzle.in) : Option ((List Int) × (Bool × Unit)) :=
  (im_IsPuzzle k x0).bind fun r1 =>
  if (!r1) = true then
    some (([] : List Int), false, ())
  else
    (im_WayToTop k x0.1 x0.2.1 x0.2.2.1 x0.2.2.2.1 x0.2.2.2.2.1).bind fun r2 =>
    some (r2.1, r2.2.1, ())
def im_SolutionOf (k : Nat) (x0 : tPuzzle.in) : Option ((List Int) × (Bool × Unit)) := im_SolutionOf_s k x0
noncomputable def im_SolutionOf_O (k : Nat) : Orc := { ps := [.v tPuzzle], rt := (.pr (.v T.s) (.pr (.v T.b) .un)), F := fun x => im_SolutionOf k x.1 }
noncomputable def im_SolutionOf_E (k : Nat) : Env := { ty := tabTy Tryd_tab, ds := tabDs Tryd_tab, rounds := k, nt := 20, orc := fun g => if Nat.beq g 20 = true then some (im_IsPuzzle_O k) else (if Nat.beq g 64 = true then some (im_WayToTop_O k) else (none)), lp := fun _ => none, ct := fun _ => none, plan := fun _ => none }
noncomputable def im_SolutionOf_fin (k : Nat) : Kn ((List Int) × (Bool × Unit)) := finish (im_SolutionOf_E k) [.v tPuzzle] (.pr (.v T.s) (.pr (.v T.b) .un)) Tryd.f36.results.toList
theorem im_SolutionOf_st (k : Nat) (x0 : tPuzzle.in) : evFun (im_SolutionOf_E k) [.v tPuzzle] (.pr (.v T.s) (.pr (.v T.b) .un)) Tryd.f36 (x0, ()) = im_SolutionOf_s k x0 := by kernel_rfl
theorem im_SolutionOf_ev (k : Nat) (x0 : tPuzzle.in) : evFun (im_SolutionOf_E k) [.v tPuzzle] (.pr (.v T.s) (.pr (.v T.b) .un)) Tryd.f36 (x0, ()) = im_SolutionOf k x0 := by
  skip
  rw [im_SolutionOf_st]; rfl
theorem im_SolutionOf_c (k : Nat) : Contract Tryd.prog 36 (im_SolutionOf_O k) :=
  fun_sound (c := bodyOf Tryd.f36) (tab_ok Tryd_tab_ok rfl rfl) (orc_cons (im_IsPuzzle_c k) (orc_cons (im_WayToTop_c k) orc_nil)) Tryd.func36 (by kernel_rfl) rfl (by kernel_rfl) (by decide) rfl rfl (by kernel_rfl) (by kernel_rfl) (by kernel_rfl) (fun x _ h => (im_SolutionOf_ev k x.1).trans h)
end Ev
/- (loop.example/g01207/impl.Puzzle).length -/
namespace Ev
open Go Go.Proofs
/-! (impl.Puzzle).length -/
def im_Puzzle_length_s (k : Nat) (x0 : tPuzzle.in) : Option (Int × (Bool × Unit)) :=
  (im_SolutionOf k x0).bind fun r1 =>
  some ((r1.1.length : Int), r1.2.1, ())
def im_Puzzle_length (k : Nat) (x0 : tPuzzle.in) : Option (Int × (Bool × Unit)) := im_Puzzle_length_s k x0
noncomputable def im_Puzzle_length_O (k : Nat) : Orc := { ps := [.v tPuzzle], rt := (.pr (.v I) (.pr (.v T.b) .un)), F := fun x => im_Puzzle_length k x.1 }
noncomputable def im_Puzzle_length_E (k : Nat) : Env := { ty := tabTy Tryd_tab, ds := tabDs Tryd_tab, rounds := k, nt := 14, orc := fun g => if Nat.beq g 36 = true then some (im_SolutionOf_O k) else (none), lp := fun _ => none, ct := fun _ => none, plan := fun _ => none }
noncomputable def im_Puzzle_length_fin (k : Nat) : Kn (Int × (Bool × Unit)) := finish (im_Puzzle_length_E k) [.v tPuzzle] (.pr (.v I) (.pr (.v T.b) .un)) Tryd.f62.results.toList
theorem im_Puzzle_length_st (k : Nat) (x0 : tPuzzle.in) : evFun (im_Puzzle_length_E k) [.v tPuzzle] (.pr (.v I) (.pr (.v T.b) .un)) Tryd.f62 (x0, ()) = im_Puzzle_length_s k x0 := by kernel_rfl
theorem im_Puzzle_length_ev (k : Nat) (x0 : tPuzzle.in) : evFun (im_Puzzle_length_E k) [.v tPuzzle] (.pr (.v I) (.pr (.v T.b) .un)) Tryd.f62 (x0, ()) = im_Puzzle_length k x0 := by
  skip
  rw [im_Puzzle_length_st]; rfl
theorem im_Puzzle_length_c (k : Nat) : Contract Tryd.prog 62 (im_Puzzle_length_O k) :=
  fun_sound (c := bodyOf Tryd.f62) (tab_ok Tryd_tab_ok rfl rfl) (orc_cons (im_SolutionOf_c k) orc_nil) Tryd.func62 (by kernel_rfl) rfl (by kernel_rfl) (by decide) rfl rfl (by kernel_rfl) (by kernel_rfl) (by kernel_rfl) (fun x _ h => (im_Puzzle_length_ev k x.1).trans h)
end Ev
/- loop.example/g01207/impl.LengthOf -/
namespace Ev
open Go Go.Proofs
/-! impl.LengthOf -/
def im_LengthOf_s (k : Nat) (x0 : tPuzzle.in) : Option (Int × (Bool × Unit)) :=
  (im_Puzzle_length k x0).bind fun r1 =>
  some (r1.1, r1.2.1, ())
def im_LengthOf (k : Nat) (x0 : tPuzzle.in) : Option (Int × (Bool × Unit)) := im_LengthOf_s k x0
noncomputable def im_LengthOf_O (k : Nat) : Orc := { ps := [.v tPuzzle], rt := (.pr (.v I) (.pr (.v T.b) .un)), F := fun x => im_LengthOf k x.1 }
noncomputable def im_LengthOf_E (k : Nat) : Env := { ty := tabTy Tryd_tab, ds := tabDs Tryd_tab, rounds := k, nt := 8, orc := fun g => if Nat.beq g 62 = true then some (im_Puzzle_length_O k) else (none), lp := fun _ => none, ct := fun _ => none, plan := fun _ => none }
noncomputable def im_LengthOf_fin (k : Nat) : Kn (Int × (Bool × Unit)) := finish (im_LengthOf_E k) [.v tPuzzle] (.pr (.v I) (.pr (.v T.b) .un)) Tryd.f34.results.toList
theorem im_LengthOf_st (k : Nat) (x0 : tPuzzle.in) : evFun (im_LengthOf_E k) [.v tPuzzle] (.pr (.v I) (.pr (.v T.b) .un)) Tryd.f34 (x0, ()) = im_LengthOf_s k x0 := by kernel_rfl
theorem im_LengthOf_ev (k : Nat) (x0 : tPuzzle.in) : evFun (im_LengthOf_E k) [.v tPuzzle] (.pr (.v I) (.pr (.v T.b) .un)) Tryd.f34 (x0, ()) = im_LengthOf k x0 := by
  skip
  rw [im_LengthOf_st]; rfl
theorem im_LengthOf_c (k : Nat) : Contract Tryd.prog 34 (im_LengthOf_O k) :=
  fun_sound (c := bodyOf Tryd.f34) (tab_ok Tryd_tab_ok rfl rfl) (orc_cons (im_Puzzle_length_c k) orc_nil) Tryd.func34 (by kernel_rfl) rfl (by kernel_rfl) (by decide) rfl rfl (by kernel_rfl) (by kernel_rfl) (by kernel_rfl) (fun x _ h => (im_LengthOf_ev k x.1).trans h)
end Ev
/- loop.example/g01207/spec.wyWord -/
namespace Ev
open Go Go.Proofs
/-! spec.wyWord -/
@[reducible] def sp_wyWord_l2_L : List (Nat × Sh) := [(0, (.v (.sl twyNode))), (1, (.v I)), (5, (.v T.s))]
def sp_wyWord_l2s (k : Nat) (g_l2 : (List twyNode.in) → Int → (List Int) → Option (List Int)) (x0 : (List twyNode.in)) (x1 : Int) (x5 : (List Int)) : Option (List Int) :=
  inb x1 x0.length (
    if (decide ((0 : Int) ≤ (rdT twyNode x0 x1).2.2.2.1)) = true then
      inb x1 x0.length (
        inb x1 x0.length (
          (sp_diDirs k).bind fun r1 =>
          cut (rdT twyNode x0 x1).2.2.2.2.1 (IntKind.i64.wrap ((rdT twyNode x0 x1).2.2.2.2.1 + (1 : Int))) (r1.length) (
            if ((r1.take ((IntKind.i64.wrap ((rdT twyNode x0 x1).2.2.2.2.1 + (1 : Int)))).toNat).drop ((rdT twyNode x0 x1).2.2.2.2.1).toNat).length + x5.length ≤ 17179869184 then (
              inb x1 x0.length (
                g_l2 x0 (rdT twyNode x0 x1).2.2.2.1 (((r1.take ((IntKind.i64.wrap ((rdT twyNode x0 x1).2.2.2.2.1 + (1 : Int)))).toNat).drop ((rdT twyNode x0 x1).2.2.2.2.1).toNat) ++ x5))) else none)))
    else
      some x5)
def sp_wyWord_l2 (k : Nat)  : Nat → (List twyNode.in) → Int → (List Int) → Option (List Int)
  | 0, _, _, _ => none
  | n + 1, x0, x1, x5 => sp_wyWord_l2s k (sp_wyWord_l2 k n) x0 x1 x5
def sp_wyWord_s (_k : Nat) (c_l2 : (List twyNode.in) → Int → (List Int) → Option (List Int)) (x0 : (List twyNode.in)) (x1 : Int) : Option (List Int) :=
  c_l2 x0 x1 ([] : List Int)
def sp_wyWord (k : Nat) (x0 : (List twyNode.in)) (x1 : Int) : Option (List Int) := sp_wyWord_s k (sp_wyWord_l2 k k) x0 x1
noncomputable def sp_wyWord_O (k : Nat) : Orc := { ps := [.v (.sl twyNode), .v I], rt := (.v T.s), F := fun x => sp_wyWord k x.1 x.2.1 }
noncomputable def sp_wyWord_E (k : Nat) : Env := { ty := tabTy Tryd_tab, ds := tabDs Tryd_tab, rounds := k, nt := 33, orc := fun g => if Nat.beq g 96 = true then some (sp_diDirs_O k) else (none), lp := fun i => if Nat.beq i 2 = true then some sp_wyWord_l2_L else (none), ct := fun _ => none, plan := fun i => if Nat.beq i 3 = true then some [(1, []), (2, []), (3, []), (4, []), (5, []), (6, []), (7, []), (8, []), (9, []), (10, []), (11, []), (13, []), (0, []), (12, []), (14, []), (15, [])] else (none) }
noncomputable def sp_wyWord_fin (k : Nat) : Kn (List Int) := finish (sp_wyWord_E k) [.v (.sl twyNode), .v I] (.v T.s) Tryd.f82.results.toList
noncomputable def sp_wyWord_l2_e (k : Nat)  (n : Nat) (x0 : (List twyNode.in)) (x1 : Int) (x5 : (List Int)) : Option (List Int) := loopF (sp_wyWord_E k) sp_wyWord_l2_L (ev (sp_wyWord_E k) (sub (bodyOf Tryd.f82) [.r, .r, .l, .c, .c])) (kont (sp_wyWord_E k) (bodyOf Tryd.f82) [.r, .r, .l, .c] [] (sp_wyWord_fin k)) n (x0, x1, x5, ())
theorem sp_wyWord_l2_z (k : Nat)  (x0 : (List twyNode.in)) (x1 : Int) (x5 : (List Int)) : sp_wyWord_l2_e k 0 x0 x1 x5 = none := by kernel_rfl
theorem sp_wyWord_l2_st (k : Nat)  (n : Nat) (x0 : (List twyNode.in)) (x1 : Int) (x5 : (List Int)) : sp_wyWord_l2_e k (n + 1) x0 x1 x5 = sp_wyWord_l2s k (sp_wyWord_l2_e k n) x0 x1 x5 := by kernel_rfl
theorem sp_wyWord_l2_ev (k : Nat)  : ∀ (n : Nat) (x0 : (List twyNode.in)) (x1 : Int) (x5 : (List Int)), sp_wyWord_l2_e k n x0 x1 x5 = sp_wyWord_l2 k n x0 x1 x5
  | 0, x0, x1, x5 => sp_wyWord_l2_z k x0 x1 x5
  | n + 1, x0, x1, x5 => by
    have ih : (sp_wyWord_l2_e k n) = sp_wyWord_l2 k n := by funext y0 y1 y2; exact sp_wyWord_l2_ev k n y0 y1 y2
    rw [sp_wyWord_l2_st, ih]; rfl
theorem sp_wyWord_st (k : Nat) (x0 : (List twyNode.in)) (x1 : Int) : evFun (sp_wyWord_E k) [.v (.sl twyNode), .v I] (.v T.s) Tryd.f82 (x0, x1, ()) = sp_wyWord_s k (sp_wyWord_l2_e k k) x0 x1 := by kernel_rfl
theorem sp_wyWord_ev (k : Nat) (x0 : (List twyNode.in)) (x1 : Int) : evFun (sp_wyWord_E k) [.v (.sl twyNode), .v I] (.v T.s) Tryd.f82 (x0, x1, ()) = sp_wyWord k x0 x1 := by
  have h0 : (sp_wyWord_l2_e k k) = (sp_wyWord_l2 k k) := by funext y0 y1 y2; exact sp_wyWord_l2_ev k k y0 y1 y2
  rw [sp_wyWord_st, h0]; rfl
theorem sp_wyWord_c (k : Nat) : Contract Tryd.prog 82 (sp_wyWord_O k) :=
  fun_sound (c := bodyOf Tryd.f82) (tab_ok Tryd_tab_ok rfl rfl) (orc_cons (sp_diDirs_c k) orc_nil) Tryd.func82 (by kernel_rfl) rfl (by kernel_rfl) (by decide) rfl rfl (by kernel_rfl) (by kernel_rfl) (by kernel_rfl) (fun x _ h => (sp_wyWord_ev k x.1 x.2.1).trans h)
end Ev
/- loop.example/g01207/spec.wyFirst -/
namespace Ev
open Go Go.Proofs
/-! spec.wyFirst -/
@[reducible] def sp_wyFirst_l2_L : List (Nat × Sh) := [(0, (.v (.sl twyNode))), (1, (.v I)), (2, (.v I)), (3, (.v I)), (12, (.v (.sl twyNode))), (13, (.v I)), (14, (.v I))]
def sp_wyFirst_l2s (k : Nat) (g_l2 : (List twyNode.in) → Int → Int → Int → (List twyNode.in) → Int → Int → Option ((List Int) × (Bool × Unit))) (x0 : (List twyNode.in)) (x1 : Int) (x2 : Int) (x3 : Int) (x12 : (List twyNode.in)) (x13 : Int) (x14 : Int) : Option ((List Int) × (Bool × Unit)) :=
  if (decide (x14 < x13)) = true then
    inb x14 x12.length (
      if (decide ((rdT twyNode x12 x14).1.1 = x1)) = true then
        if (decide ((rdT twyNode x12 x14).1.2.1 = x2)) = true then
          if (decide (x3 < (0 : Int))) = true then
            if (decide ((rdT twyNode x12 x14).2.1 ≤ (60 : Int))) = true then
              (sp_wyWord k x0 x14).bind fun r1 =>
              some (r1, true, ())
            else
              g_l2 x0 x1 x2 x3 x12 x13 (IntKind.i64.wrap (x14 + (1 : Int)))
          else
            if (decide ((rdT twyNode x12 x14).1.2.2.1.1 = x3)) = true then
              if (decide ((rdT twyNode x12 x14).2.1 ≤ (60 : Int))) = true then
                (sp_wyWord k x0 x14).bind fun r2 =>
                some (r2, true, ())
              else
                g_l2 x0 x1 x2 x3 x12 x13 (IntKind.i64.wrap (x14 + (1 : Int)))
            else
              g_l2 x0 x1 x2 x3 x12 x13 (IntKind.i64.wrap (x14 + (1 : Int)))
        else
          g_l2 x0 x1 x2 x3 x12 x13 (IntKind.i64.wrap (x14 + (1 : Int)))
      else
        g_l2 x0 x1 x2 x3 x12 x13 (IntKind.i64.wrap (x14 + (1 : Int))))
  else
    some (([] : List Int), false, ())
def sp_wyFirst_l2 (k : Nat)  : Nat → (List twyNode.in) → Int → Int → Int → (List twyNode.in) → Int → Int → Option ((List Int) × (Bool × Unit))
  | 0, _, _, _, _, _, _, _ => none
  | n + 1, x0, x1, x2, x3, x12, x13, x14 => sp_wyFirst_l2s k (sp_wyFirst_l2 k n) x0 x1 x2 x3 x12 x13 x14
def sp_wyFirst_s (_k : Nat) (c_l2 : (List twyNode.in) → Int → Int → Int → (List twyNode.in) → Int → Int → Option ((List Int) × (Bool × Unit))) (x0 : (List twyNode.in)) (x1 : Int) (x2 : Int) (x3 : Int) : Option ((List Int) × (Bool × Unit)) :=
  c_l2 x0 x1 x2 x3 x0 (x0.length : Int) (0 : Int)
def sp_wyFirst (k : Nat) (x0 : (List twyNode.in)) (x1 : Int) (x2 : Int) (x3 : Int) : Option ((List Int) × (Bool × Unit)) := sp_wyFirst_s k (sp_wyFirst_l2 k k) x0 x1 x2 x3
noncomputable def sp_wyFirst_O (k : Nat) : Orc := { ps := [.v (.sl twyNode), .v I, .v I, .v I], rt := (.pr (.v T.s) (.pr (.v T.b) .un)), F := fun x => sp_wyFirst k x.1 x.2.1 x.2.2.1 x.2.2.2.1 }
noncomputable def sp_wyFirst_E (k : Nat) : Env := { ty := tabTy Tryd_tab, ds := tabDs Tryd_tab, rounds := k, nt := 52, orc := fun g => if Nat.beq g 82 = true then some (sp_wyWord_O k) else (none), lp := fun i => if Nat.beq i 2 = true then some sp_wyFirst_l2_L else (none), ct := fun _ => none, plan := fun _ => none }
noncomputable def sp_wyFirst_fin (k : Nat) : Kn ((List Int) × (Bool × Unit)) := finish (sp_wyFirst_E k) [.v (.sl twyNode), .v I, .v I, .v I] (.pr (.v T.s) (.pr (.v T.b) .un)) Tryd.f63.results.toList
noncomputable def sp_wyFirst_l2_e (k : Nat)  (n : Nat) (x0 : (List twyNode.in)) (x1 : Int) (x2 : Int) (x3 : Int) (x12 : (List twyNode.in)) (x13 : Int) (x14 : Int) : Option ((List Int) × (Bool × Unit)) := loopF (sp_wyFirst_E k) sp_wyFirst_l2_L (ev (sp_wyFirst_E k) (sub (bodyOf Tryd.f63) [.r, .l, .r, .c, .c])) (kont (sp_wyFirst_E k) (bodyOf Tryd.f63) [.r, .l, .r, .c] [] (sp_wyFirst_fin k)) n (x0, x1, x2, x3, x12, x13, x14, ())
theorem sp_wyFirst_l2_z (k : Nat)  (x0 : (List twyNode.in)) (x1 : Int) (x2 : Int) (x3 : Int) (x12 : (List twyNode.in)) (x13 : Int) (x14 : Int) : sp_wyFirst_l2_e k 0 x0 x1 x2 x3 x12 x13 x14 = none := by kernel_rfl
theorem sp_wyFirst_l2_st (k : Nat)  (n : Nat) (x0 : (List twyNode.in)) (x1 : Int) (x2 : Int) (x3 : Int) (x12 : (List twyNode.in)) (x13 : Int) (x14 : Int) : sp_wyFirst_l2_e k (n + 1) x0 x1 x2 x3 x12 x13 x14 = sp_wyFirst_l2s k (sp_wyFirst_l2_e k n) x0 x1 x2 x3 x12 x13 x14 := by kernel_rfl
theorem sp_wyFirst_l2_ev (k : Nat)  : ∀ (n : Nat) (x0 : (List twyNode.in)) (x1 : Int) (x2 : Int) (x3 : Int) (x12 : (List twyNode.in)) (x13 : Int) (x14 : Int), sp_wyFirst_l2_e k n x0 x1 x2 x3 x12 x13 x14 = sp_wyFirst_l2 k n x0 x1 x2 x3 x12 x13 x14
  | 0, x0, x1, x2, x3, x12, x13, x14 => sp_wyFirst_l2_z k x0 x1 x2 x3 x12 x13 x14
  | n + 1, x0, x1, x2, x3, x12, x13, x14 => by
    have ih : (sp_wyFirst_l2_e k n) = sp_wyFirst_l2 k n := by funext y0 y1 y2 y3 y4 y5 y6; exact sp_wyFirst_l2_ev k n y0 y1 y2 y3 y4 y5 y6
    rw [sp_wyFirst_l2_st, ih]; rfl
theorem sp_wyFirst_st (k : Nat) (x0 : (List twyNode.in)) (x1 : Int) (x2 : Int) (x3 : Int) : evFun (sp_wyFirst_E k) [.v (.sl twyNode), .v I, .v I, .v I] (.pr (.v T.s) (.pr (.v T.b) .un)) Tryd.f63 (x0, x1, x2, x3, ()) = sp_wyFirst_s k (sp_wyFirst_l2_e k k) x0 x1 x2 x3 := by kernel_rfl
theorem sp_wyFirst_ev (k : Nat) (x0 : (List twyNode.in)) (x1 : Int) (x2 : Int) (x3 : Int) : evFun (sp_wyFirst_E k) [.v (.sl twyNode), .v I, .v I, .v I] (.pr (.v T.s) (.pr (.v T.b) .un)) Tryd.f63 (x0, x1, x2, x3, ()) = sp_wyFirst k x0 x1 x2 x3 := by
  have h0 : (sp_wyFirst_l2_e k k) = (sp_wyFirst_l2 k k) := by funext y0 y1 y2 y3 y4 y5 y6; exact sp_wyFirst_l2_ev k k y0 y1 y2 y3 y4 y5 y6
  rw [sp_wyFirst_st, h0]; rfl
theorem sp_wyFirst_c (k : Nat) : Contract Tryd.prog 63 (sp_wyFirst_O k) :=
  fun_sound (c := bodyOf Tryd.f63) (tab_ok Tryd_tab_ok rfl rfl) (orc_cons (sp_wyWord_c k) orc_nil) Tryd.func63 (by kernel_rfl) rfl (by kernel_rfl) (by decide) rfl rfl (by kernel_rfl) (by kernel_rfl) (by kernel_rfl) (fun x _ h => (sp_wyFirst_ev k x.1 x.2.1 x.2.2.1 x.2.2.2.1).trans h)
end Ev
/- loop.example/g01207/spec.SolutionOf -/
namespace Ev
open Go Go.Proofs
/-! spec.SolutionOf -/
def sp_SolutionOf_s (k : Nat) (x0 : tPuzzle.in) : Option ((List Int) × (Bool × Unit)) :=
  (sp_puStates k x0).bind fun r1 =>
  if (!r1.2.2.1) = true then
    some (([] : List Int), false, ())
  else
    (sp_wyFirst k r1.1 x0.2.2.1 x0.2.2.2.1 x0.2.2.2.2.1).bind fun r2 =>
    some (r2.1, r2.2.1, ())
def sp_SolutionOf (k : Nat) (x0 : tPuzzle.in) : Option ((List Int) × (Bool × Unit)) := sp_SolutionOf_s k x0
noncomputable def sp_SolutionOf_O (k : Nat) : Orc := { ps := [.v tPuzzle], rt := (.pr (.v T.s) (.pr (.v T.b) .un)), F := fun x => sp_SolutionOf k x.1 }
noncomputable def sp_SolutionOf_E (k : Nat) : Env := { ty := tabTy Tryd_tab, ds := tabDs Tryd_tab, rounds := k, nt := 25, orc := fun g => if Nat.beq g 61 = true then some (sp_puStates_O k) else (if Nat.beq g 63 = true then some (sp_wyFirst_O k) else (none)), lp := fun _ => none, ct := fun _ => none, plan := fun _ => none }
noncomputable def sp_SolutionOf_fin (k : Nat) : Kn ((List Int) × (Bool × Unit)) := finish (sp_SolutionOf_E k) [.v tPuzzle] (.pr (.v T.s) (.pr (.v T.b) .un)) Tryd.f35.results.toList
theorem sp_SolutionOf_st (k : Nat) (x0 : tPuzzle.in) : evFun (sp_SolutionOf_E k) [.v tPuzzle] (.pr (.v T.s) (.pr (.v T.b) .un)) Tryd.f35 (x0, ()) = sp_SolutionOf_s k x0 := by kernel_rfl
theorem sp_SolutionOf_ev (k : Nat) (x0 : tPuzzle.in) : evFun (sp_SolutionOf_E k) [.v tPuzzle] (.pr (.v T.s) (.pr (.v T.b) .un)) Tryd.f35 (x0, ()) = sp_SolutionOf k x0 := by
  skip
  rw [sp_SolutionOf_st]; rfl
theorem sp_SolutionOf_c (k : Nat) : Contract Tryd.prog 35 (sp_SolutionOf_O k) :=
  fun_sound (c := bodyOf Tryd.f35) (tab_ok Tryd_tab_ok rfl rfl) (orc_cons (sp_puStates_c k) (orc_cons (sp_wyFirst_c k) orc_nil)) Tryd.func35 (by kernel_rfl) rfl (by kernel_rfl) (by decide) rfl rfl (by kernel_rfl) (by kernel_rfl) (by kernel_rfl) (fun x _ h => (sp_SolutionOf_ev k x.1).trans h)
end Ev
/- Plain laws: the shortest word to a goal. -/
namespace Ev
open Go

theorem rev_loop (k : Nat) : ∀ (n : Nat) (A M B : List Int), M.length < n → A.length + M.length ≤ 1000000000 →
    slices_Reverse_byte_byte_l1 k n (A ++ M ++ B) (A.length : Int) ((A.length : Int) + (M.length : Int) - 1) = some ((), A ++ M.reverse ++ B)
  | n + 1, A, M, B, hn, hl => by
    show slices_Reverse_byte_byte_l1s k _ _ _ _ = _
    unfold slices_Reverse_byte_byte_l1s
    cases M with
    | nil => rw [if_neg (ndt (by simp; omega))]; simp
    | cons a t =>
      rcases List.eq_nil_or_concat t with rfl | ⟨M, b, rfl⟩
      · rw [if_neg (ndt (by simp))]; simp
      · simp only [List.concat_eq_append, List.length_cons, List.length_append, List.length_nil] at hn hl
        have e0 : A ++ a :: (M.concat b) ++ B = A ++ a :: (M ++ b :: B) := by simp
        have e1 : A ++ a :: (M ++ b :: B) = (A ++ a :: M) ++ b :: B := by simp
        have e2 : (A.length : Int) + ((a :: M.concat b).length : Int) - 1 = (((A ++ a :: M).length : Nat) : Int) := by simp; omega
        have n1 : (A.length : Int).toNat = A.length := by omega
        have n2 : (((A ++ a :: M).length : Nat) : Int).toNat = (A ++ a :: M).length := by omega
        have g1 : (A ++ a :: (M ++ b :: B)).getD A.length 0 = a := app_getD _ _ _
        have g2 : (A ++ a :: (M ++ b :: B)).getD (A ++ a :: M).length 0 = b := by rw [e1]; exact app_getD _ _ _
        have hlen : (A ++ a :: M).length < (A ++ a :: (M ++ b :: B)).length := by simp
        have hlen2 : A.length < (A ++ a :: M).length := by simp
        have s1 : (A ++ a :: (M ++ b :: B)).set A.length b = A ++ b :: (M ++ b :: B) := app_set _ _ _ _
        have s2 : (A ++ b :: (M ++ b :: B)).set (A ++ a :: M).length a = (A ++ [b]) ++ M ++ (a :: B) := by
          have : A ++ b :: (M ++ b :: B) = (A ++ b :: M) ++ b :: B := by simp
          have h3 : (A ++ a :: M).length = (A ++ b :: M).length := by simp
          rw [this, h3, app_set]; simp
        rw [e0, e2, if_pos (dt (by omega)), inb_eq (by omega), inb_eq (by omega), inb_eq (by omega), n1, n2, g1, g2, s1, inb_eq (by simp; omega), s2, wr (by omega), wr (by simp; omega)]
        have e3 : (A.length : Int) + 1 = ((A ++ [b]).length : Int) := by simp
        have e4 : (((A ++ a :: M).length : Nat) : Int) - 1 = ((A ++ [b]).length : Int) + (M.length : Int) - 1 := by simp; omega
        rw [e3, e4]
        refine (rev_loop k n (A ++ [b]) M (a :: B) (by omega) (by simp; omega)).trans ?_
        simp
theorem reverse_is (k : Nat) (l : List Int) (hl : l.length < k) (hb : l.length ≤ 1000000000) : slices_Reverse_byte_byte k l = some ((), l.reverse) := by
  have := rev_loop k k [] l [] hl (by simp; omega)
  simp only [List.nil_append, List.append_nil, List.length_nil] at this
  show slices_Reverse_byte_byte_l1 k k l 0 (IntKind.i64.wrap ((l.length : Int) - 1)) = _
  rw [wr (by omega)]
  have e : ((0 : Nat) : Int) + (l.length : Int) - 1 = (l.length : Int) - 1 := by omega
  rw [e] at this
  exact this
/-- The word to a state that is found. -/
inductive WPath (L : List En) : Nat → List Int → Prop
  | z : WPath L 0 []
  | s {i j d : Nat} {w : List Int} (h1 : 0 < j) (h2 : j < L.length) (h3 : (L.getD j e0).b = (i : Int)) (h4 : i < j) (h5 : d < 4) (h6 : (L.getD j e0).d = (d : Int)) (p : WPath L i w) : WPath L j (w ++ [chrD (d : Int)])
theorem Inv.path {g : List (List Int)} {s0 : tState.in} {L : List En} (h : Inv g s0 L) : ∀ (j : Nat), j < L.length → ∃ w, WPath L j w ∧ (w.length : Int) = (L.getD j e0).f := by
  intro j
  induction j using Nat.strongRecOn with
  | _ j ih =>
    intro hj
    by_cases h0 : j = 0
    · subst h0
      exact ⟨[], .z, by rw [h.r0]; rfl⟩
    · obtain ⟨i, d, h1, h2, h3, h4, h5, h6⟩ := h.fr j (by omega) hj
      obtain ⟨w, hw, hl⟩ := ih i h2 (by omega)
      exact ⟨w ++ [chrD (d : Int)], .s (by omega) hj h1 h2 h4 h5 hw, by rw [h3, ← hl]; simp⟩
theorem word_im (k : Nat) (hk : 1000000000 ≤ k) {L : List En} (hL : L.length ≤ 49000000) : ∀ {j : Nat} {w : List Int}, WPath L j w → ∀ (n : Nat) (x6 : List Int), w.length < n → x6.length + w.length ≤ 50000000 →
    im_reach_word_l2 k n (some (enc L)) (j : Int) x6 = if 60 < x6.length + w.length then some ([], false, ()) else some ((x6 ++ w.reverse).reverse, true, ()) := by
  intro j w hp
  induction hp with
  | z =>
    intro n x6 hn hx
    obtain ⟨n, rfl⟩ : ∃ m, n = m + 1 := ⟨n - 1, by omega⟩
    show im_reach_word_l2s k _ _ _ _ = _
    unfold im_reach_word_l2s
    rw [if_neg (ndt (by decide)), reverse_is k x6 (by simp at hx; omega) (by simp at hx; omega), Option.bind_some]
    by_cases h : 60 < x6.length
    · rw [if_pos (dt (by simp; omega)), if_pos (by simp; omega)]
    · rw [if_neg (ndt (by simp; omega)), if_neg (by simp; omega)]; simp
  | @s i j d w h1 h2 h3 h4 h5 h6 p ih =>
    intro n x6 hn hx
    rw [List.length_append, List.length_singleton] at hn hx
    obtain ⟨n, rfl⟩ : ∃ m, n = m + 1 := ⟨n - 1, by omega⟩
    show im_reach_word_l2s k _ _ _ _ = _
    unfold im_reach_word_l2s
    have er : rdT (.i .u8) (enc L).2.2.1 (j : Int) = chrD (d : Int) := by
      show (L.map chE).getD j 0 = _
      rw [gmap (z := e0) chE L 0 h2]
      unfold chE
      rw [h3, if_neg (by omega), h6]
    have ef : rdT I (enc L).2.1 (j : Int) = (i : Int) := by
      show (L.map En.b).getD j 0 = _
      rw [gmap (z := e0) En.b L 0 h2, h3]
    have l2 : (enc L).2.1.length = L.length := List.length_map ..
    have l3 : (enc L).2.2.1.length = L.length := List.length_map ..
    rw [if_pos (dt (by omega)), Option.bind_some, inb_eq (by rw [l3]; omega), er, if_pos (by simp; omega), Option.bind_some, inb_eq (by rw [l2]; omega), ef, ih n _ (by omega) (by simp; omega)]
    have e7 : (x6 ++ [chrD (d : Int)]).length + w.length = x6.length + (w ++ [chrD (d : Int)]).length := by simp; omega
    have e8 : (x6 ++ [chrD (d : Int)]) ++ w.reverse = x6 ++ (w ++ [chrD (d : Int)]).reverse := by simp
    rw [e7, e8]
theorem dir_cut {d : Nat} (h : d < 4) : (([110, 101, 115, 119] : List Int).take ((d : Int) + 1).toNat).drop (d : Int).toNat = [chrD (d : Int)] := by
  match d, h with
  | 0, _ => rfl
  | 1, _ => rfl
  | 2, _ => rfl
  | 3, _ => rfl
theorem pj_at {L : List En} {all : List twyNode.in} (h : all.map pj = L.map pe) {j : Nat} (hj : j < L.length) : pj (all.getD j zN) = pe (L.getD j e0) := Rel.at (w := 0) ⟨h, rfl⟩ hj
theorem pj_len {L : List En} {all : List twyNode.in} (h : all.map pj = L.map pe) : all.length = L.length := (Rel.len (w := 0) ⟨h, rfl⟩).1
theorem word_sp (k : Nat) {g : List (List Int)} {s0 : tState.in} {L : List En} (hI : Inv g s0 L) {all : List twyNode.in} (ha : all.map pj = L.map pe) : ∀ {j : Nat} {w : List Int}, WPath L j w → ∀ (n : Nat) (x5 : List Int), w.length < n → w.length + x5.length ≤ 50000000 →
    sp_wyWord_l2 k n all (j : Int) x5 = some (w ++ x5) := by
  have hl := pj_len ha
  intro j w hp
  induction hp with
  | z =>
    intro n x5 hn hx
    obtain ⟨n, rfl⟩ : ∃ m, n = m + 1 := ⟨n - 1, by omega⟩
    show sp_wyWord_l2s k _ _ _ _ = _
    unfold sp_wyWord_l2s
    have hne := hI.ne
    have e1 : rdT twyNode all ((0 : Nat) : Int) = all.getD 0 zN := rfl
    have e2 : (all.getD 0 zN).2.2.2.1 = (L.getD 0 e0).b := congrArg (fun z => z.2.2.1) (pj_at ha hne)
    rw [inb_eq (by omega), e1, e2, hI.r0, if_neg (ndt (show ¬ ((0 : Int) ≤ -1) by omega))]
    rfl
  | @s i j d w h1 h2 h3 h4 h5 h6 p ih =>
    intro n x5 hn hx
    rw [List.length_append, List.length_singleton] at hn hx
    obtain ⟨n, rfl⟩ : ∃ m, n = m + 1 := ⟨n - 1, by omega⟩
    show sp_wyWord_l2s k _ _ _ _ = _
    unfold sp_wyWord_l2s
    have e1 : rdT twyNode all (j : Int) = all.getD j zN := rfl
    have e2 : (all.getD j zN).2.2.2.1 = (i : Int) := (congrArg (fun z => z.2.2.1) (pj_at ha h2)).trans h3
    have e3 : (all.getD j zN).2.2.2.2.1 = (d : Int) := (congrArg (fun z => z.2.2.2) (pj_at ha h2)).trans h6
    rw [inb_eq (by omega), e1, e2, e3, if_pos (dt (by omega)), inb_eq (by omega), inb_eq (by omega), wr (by omega)]
    show (Option.bind (some ([110, 101, 115, 119] : List Int)) _) = _
    rw [Option.bind_some, cut_eq (by simp; omega), dir_cut h5, if_pos (by simp; omega), inb_eq (by omega), ih n _ (by omega) (by simp; omega)]
    simp

/-! ### The first goal -/
theorem first_or {α : Type} (z : α) (p : α → Bool) : ∀ l : List α, (∀ x ∈ l, p x = false) ∨ ∃ i, i < l.length ∧ p (l.getD i z) = true ∧ ∀ j, j < i → p (l.getD j z) = false
  | [] => .inl fun _ h => by cases h
  | x :: l => by
    by_cases h : p x = true
    · exact .inr ⟨0, by simp, h, fun j hj => absurd hj (Nat.not_lt_zero j)⟩
    · rcases first_or z p l with h1 | ⟨i, h1, h2, h3⟩
      · refine .inl fun y hy => ?_
        rcases List.mem_cons.1 hy with rfl | hy
        · simpa using h
        · exact h1 y hy
      · refine .inr ⟨i + 1, by simpa using h1, h2, fun j hj => ?_⟩
        cases j with
        | zero => simpa using h
        | succ j => exact h3 j (by omega)
theorem fidx_first {α : Type} (z : α) (p : α → Bool) : ∀ (l : List α) (i : Nat), i < l.length → p (l.getD i z) = true → (∀ j, j < i → p (l.getD j z) = false) → fidx p l = (i : Int)
  | [], _, h, _, _ => by cases h
  | x :: l, 0, _, h, _ => by
    have h : p x = true := h
    unfold fidx
    rw [if_pos h]; rfl
  | x :: l, i + 1, hi, h, hn => by
    have h0 : p x = false := hn 0 (by omega)
    have ih := fidx_first z p l i (by simpa using hi) h (fun j hj => hn (j + 1) (by omega))
    unfold fidx
    rw [if_neg (by simp [h0]), ih, if_neg (by omega)]; rfl
theorem pu_none (k : Nat) (p : tPuzzle.in) {L : List En} {all : List twyNode.in} (ha : all.map pj = L.map pe) (hL : L.length ≤ 49000000) (hno : ∀ e ∈ L, goal p e.s = false) : ∀ (d n j : Nat), L.length = j + d → d < n →
    sp_puStates_l6 k n p all () (all.length : Int) (j : Int) = some ([], 0, false, ())
  | 0, n + 1, j, hj, _ => by
    have hl := pj_len ha
    show sp_puStates_l6s k _ _ _ _ _ _ = _
    unfold sp_puStates_l6s
    rw [if_neg (ndt (by omega))]
  | d + 1, n + 1, j, hj, hn => by
    have hl := pj_len ha
    show sp_puStates_l6s k _ _ _ _ _ _ = _
    unfold sp_puStates_l6s
    have e1 : (all.getD (j : Int).toNat (((0 : Int), (0 : Int), ((0 : Int), (0 : Int), (0 : Int), (0 : Int), (0 : Int), (0 : Int), ()), ()), (0 : Int), (0 : Int), (0 : Int), (0 : Int), (List.replicate 4 (0 : Int)), ())).1 = (L.getD j e0).s := congrArg Prod.fst (pj_at ha (j := j) (by omega))
    have hg := hno _ (gmem (z := e0) L (j := j) (by omega))
    rw [if_pos (dt (by omega)), inb_eq (by omega), e1, puDone_is, hg, Option.bind_some, if_neg (by decide), wr (by omega)]
    exact pu_none k p ha hL hno d n (j + 1) (by omega) (by omega)
theorem pu_first (k : Nat) (p : tPuzzle.in) {L : List En} {all : List twyNode.in} (ha : all.map pj = L.map pe) (hL : L.length ≤ 49000000) {i : Nat} (hi : i < L.length) (hg : goal p (L.getD i e0).s = true) (hno : ∀ j, j < i → goal p (L.getD j e0).s = false) : ∀ (d n j : Nat), i = j + d → d < n →
    sp_puStates_l6 k n p all () (all.length : Int) (j : Int) = some (all, (L.getD i e0).f, decide ((L.getD i e0).f ≤ 60), ())
  | 0, n + 1, j, hj, _ => by
    have hl := pj_len ha
    show sp_puStates_l6s k _ _ _ _ _ _ = _
    unfold sp_puStates_l6s
    have hji : i = j := by omega
    subst hji
    have e1 : (all.getD (i : Int).toNat (((0 : Int), (0 : Int), ((0 : Int), (0 : Int), (0 : Int), (0 : Int), (0 : Int), (0 : Int), ()), ()), (0 : Int), (0 : Int), (0 : Int), (0 : Int), (List.replicate 4 (0 : Int)), ())).1 = (L.getD i e0).s := congrArg Prod.fst (pj_at ha hi)
    have e2 : (all.getD (i : Int).toNat (((0 : Int), (0 : Int), ((0 : Int), (0 : Int), (0 : Int), (0 : Int), (0 : Int), (0 : Int), ()), ()), (0 : Int), (0 : Int), (0 : Int), (0 : Int), (List.replicate 4 (0 : Int)), ())).2.1 = (L.getD i e0).f := congrArg (fun z => z.2.1) (pj_at ha hi)
    rw [if_pos (dt (by omega)), inb_eq (by omega), e1, e2, puDone_is, hg, Option.bind_some, if_pos rfl]
  | d + 1, n + 1, j, hj, hn => by
    have hl := pj_len ha
    show sp_puStates_l6s k _ _ _ _ _ _ = _
    unfold sp_puStates_l6s
    have e1 : (all.getD (j : Int).toNat (((0 : Int), (0 : Int), ((0 : Int), (0 : Int), (0 : Int), (0 : Int), (0 : Int), (0 : Int), ()), ()), (0 : Int), (0 : Int), (0 : Int), (0 : Int), (List.replicate 4 (0 : Int)), ())).1 = (L.getD j e0).s := congrArg Prod.fst (pj_at ha (j := j) (by omega))
    rw [if_pos (dt (by omega)), inb_eq (by omega), e1, puDone_is, hno j (by omega), Option.bind_some, if_neg (by decide), wr (by omega)]
    exact pu_first k p ha hL hi hg hno d n (j + 1) (by omega) (by omega)
theorem wyFirst_loop (k : Nat) (p : tPuzzle.in) (htop : ¬ (p.2.2.2.2.1 < (0 : Int))) {L : List En} {all : List twyNode.in} (ha : all.map pj = L.map pe) (hL : L.length ≤ 49000000) {i : Nat} (hi : i < L.length) (hg : goal p (L.getD i e0).s = true) (hno : ∀ j, j < i → goal p (L.getD j e0).s = false) (hf : (L.getD i e0).f ≤ 60) : ∀ (d n j : Nat), i = j + d → d < n →
    sp_wyFirst_l2 k n all p.2.2.1 p.2.2.2.1 p.2.2.2.2.1 all (all.length : Int) (j : Int) = (sp_wyWord k all (i : Int)).bind fun r => some (r, true, ())
  | 0, n + 1, j, hj, _ => by
    have hl := pj_len ha
    show sp_wyFirst_l2s k _ _ _ _ _ _ _ _ = _
    unfold sp_wyFirst_l2s
    have hji : i = j := by omega
    subst hji
    have e0' : rdT twyNode all (i : Int) = all.getD i zN := rfl
    have e1 : (all.getD i zN).1 = (L.getD i e0).s := congrArg Prod.fst (pj_at ha hi)
    have e2 : (all.getD i zN).2.1 = (L.getD i e0).f := congrArg (fun z => z.2.1) (pj_at ha hi)
    have hg' := of_decide_eq_true hg
    rw [if_pos (dt (by omega)), inb_eq (by omega), e0', e1, e2, if_pos (dt hg'.1), if_pos (dt hg'.2.1), if_neg (ndt htop), if_pos (dt hg'.2.2), if_pos (dt hf)]
  | d + 1, n + 1, j, hj, hn => by
    have hl := pj_len ha
    show sp_wyFirst_l2s k _ _ _ _ _ _ _ _ = _
    unfold sp_wyFirst_l2s
    have e0' : rdT twyNode all (j : Int) = all.getD j zN := rfl
    have e1 : (all.getD j zN).1 = (L.getD j e0).s := congrArg Prod.fst (pj_at ha (j := j) (by omega))
    have hg' := of_decide_eq_false (hno j (by omega))
    have ih := wyFirst_loop k p htop ha hL hi hg hno hf d n (j + 1) (by omega) (by omega)
    rw [if_pos (dt (by omega)), inb_eq (by omega), e0', e1, wr (by omega)]
    by_cases h1 : (L.getD j e0).s.1 = p.2.2.1
    · rw [if_pos (dt h1)]
      by_cases h2 : (L.getD j e0).s.2.1 = p.2.2.2.1
      · rw [if_pos (dt h2), if_neg (ndt htop), if_neg (ndt (fun h3 => hg' ⟨h1, h2, h3⟩))]
        exact ih
      · rw [if_neg (ndt h2)]; exact ih
    · rw [if_neg (ndt h1)]; exact ih
theorem isGoal1_is (k : Nat) (p : tPuzzle.in) (s : tState.in) : im_WayToTop_1 k s p.2.2.1 p.2.2.2.1 p.2.2.2.2.1 = some (goal p s) := by
  show (Option.bind (if decide (s.1 = p.2.2.1) = true then some (decide (s.2.1 = p.2.2.2.1)) else some false) _) = _
  unfold goal
  by_cases h1 : s.1 = p.2.2.1
  · by_cases h2 : s.2.1 = p.2.2.2.1
    · simp [h1, h2]
    · simp [h1, h2]
  · simp [h1]
/-- Both sides find the same shortest word. -/
theorem solution_is (k : Nat) (hk : 1000000000 ≤ k) (p : tPuzzle.in) (hs : List.length p.1 ≤ 1048576) :
    ∃ wd ok, sp_SolutionOf k p = some (wd, ok, ()) ∧ im_SolutionOf k p = some (wd, ok, ()) ∧ sp_LengthOf k p = some ((List.length wd : Int), ok, ()) := by
  have d1 : sp_SolutionOf k p = (sp_puStates k p).bind _ := rfl
  have d2 : im_SolutionOf k p = (im_IsPuzzle k p).bind _ := rfl
  have d3 : sp_LengthOf k p = (sp_puStates k p).bind _ := rfl
  have d4 : sp_puStates k p = (sp_puGood k p).bind _ := rfl
  rw [d1, d2, d3]
  rcases puz_is k (by omega) p hs with ⟨w, h, b, e1, e2, h1, h2, h3, h4⟩ | ⟨g, -, h1, h2, h3, h4⟩
  · cases hp : puOk (spl p.1) p with
    | false =>
      rw [hp] at h3 h4
      rw [d4, h3, h4]
      exact ⟨[], false, rfl, rfl, rfl⟩
    | true =>
      rw [hp] at h3 h4
      unfold puOk stOk at hp
      simp only [Bool.and_eq_true, decide_eq_true_eq] at hp
      obtain ⟨⟨hdie, hflo⟩, hcell, htop⟩ := hp
      have hflo' : flo (spl p.1) p.2.1 = true := decide_eq_true hflo
      have hst : stOk (spl p.1) p.2.1 = true := by unfold stOk; rw [hdie, decide_eq_true hflo]; rfl
      obtain ⟨L, all, hI, ha, hA, hR⟩ := reach_is k hk b.rc p.2.1 hflo' hdie (fun a2 => (im_grid_roll k (spl p.1) a2.1 a2.2.1).bind fun r3 => some (r3.1, r3.2.1, ())) (fun s c => by
        show (im_grid_roll k (spl p.1) s c).bind _ = _
        rw [gridRoll_is k b.rc]; rfl)
      have hL := hI.bd b.rc
      have hl := pj_len ha
      rw [h3, d4, h4, Option.bind_some, Option.bind_some, if_neg (by decide), if_neg (by decide), e2, Option.bind_some, hA, Option.bind_some]
      -- the program's way
      have c1 : im_reachOn k p.1 p.2.1 = some (some (enc L), true, ()) := by
        show (im_onBoard k p.1 p.2.1).bind _ = _
        rw [h1, hst, Option.bind_some, if_neg (show ¬ ((!true) = true) by decide)]
        show (im_reached k p.2.1 (fun a2 => (im_grid_roll k (spl p.1) a2.1 a2.2.1).bind fun r3 => some (r3.1, r3.2.1, ()))).bind _ = _
        rw [hR]; rfl
      have hin : (0 ≤ p.2.2.2.1 ∧ p.2.2.2.1 < (h : Int)) ∧ (0 ≤ p.2.2.1 ∧ p.2.2.1 < (w : Int)) := flo_in b.rc (s := (p.2.2.1, p.2.2.2.1, p.2.1.2.2.1, ())) (decide_eq_true hcell)
      have c2 : im_reachCell k p.1 p.2.1 p.2.2.1 p.2.2.2.1 = some (some (enc L), true, ()) := by
        show (im_reachOn k p.1 p.2.1).bind _ = _
        rw [c1, Option.bind_some, e1, Option.bind_some, if_neg (show ¬ ((!true) = true) by decide), has_is k b.rc, Option.bind_some, if_neg (nnd hin)]
      have c3 : im_WayToTop k p.1 p.2.1 p.2.2.1 p.2.2.2.1 p.2.2.2.2.1 = (im_reach_wordTo k (some (enc L)) (fun a3 => (im_WayToTop_1 k a3.1 p.2.2.1 p.2.2.2.1 p.2.2.2.2.1).bind fun r4 => some r4)).bind fun r5 => some (r5.1, r5.2.1, ()) := by
        show (im_reachCell k p.1 p.2.1 p.2.2.1 p.2.2.2.1).bind _ = _
        rw [c2, Option.bind_some, if_neg (show ¬ ((!true) = true) by decide), im_in_is, Option.bind_some, if_neg (nnd htop)]
      have l1 : (enc L).1 = L.map En.s := rfl
      have c4 := idxSt_loop k (goal p) (fun a3 => (im_WayToTop_1 k a3.1 p.2.2.1 p.2.2.2.1 p.2.2.2.2.1).bind fun r4 => some r4) (fun x => by
        show Option.bind (im_WayToTop_1 k x p.2.2.1 p.2.2.2.1 p.2.2.2.2.1) _ = _
        rw [isGoal1_is]; rfl) (enc L).1 (by rw [l1, List.length_map]; omega) (enc L).1.length k 0 (by omega) (by rw [l1, List.length_map]; omega)
      rw [List.drop_zero] at c4
      have c5 : im_reach_wordTo k (some (enc L)) (fun a3 => (im_WayToTop_1 k a3.1 p.2.2.1 p.2.2.2.1 p.2.2.2.2.1).bind fun r4 => some r4) = (slices_IndexFunc_impl_State_impl_State_l2 k k (enc L).1 (fun a3 => (im_WayToTop_1 k a3.1 p.2.2.1 p.2.2.2.1 p.2.2.2.2.1).bind fun r4 => some r4) ((enc L).1.length : Int) ((0 : Nat) : Int)).bind _ := rfl
      rw [c3, c5, c4, Option.bind_some]
      rcases first_or e0 (fun e => goal p e.s) L with hno | ⟨i, hi, hg, hno⟩
      · have f1 : fidx (goal p) (enc L).1 = -1 := by
          rw [fidx_all]
          intro x hx
          obtain ⟨e, he, rfl⟩ := List.mem_map.1 hx
          exact hno e he
        have s1 := pu_none k p ha hL hno L.length k 0 (by omega) (by omega)
        rw [f1, if_pos rfl, if_pos (dt (by decide))]
        refine ⟨[], false, ?_, rfl, ?_⟩
        · refine (congrArg (fun z => Option.bind z _) s1).trans rfl
        · refine (congrArg (fun z => Option.bind z _) s1).trans rfl
      · have f1 : fidx (goal p) (enc L).1 = (i : Int) := by
          refine fidx_first sz0 (goal p) (L.map En.s) i (by rw [List.length_map]; exact hi) ?_ fun j hj => ?_
          · rw [gmap (z := e0) En.s L sz0 hi]; exact hg
          · rw [gmap (z := e0) En.s L sz0 (by omega)]; exact hno j hj
        obtain ⟨wd, hpth, hlen⟩ := hI.path i hi
        have hfb := hI.fb i hi
        have s1 := pu_first k p ha hL hi hg hno i k 0 (by omega) (by omega)
        have c6 : im_reach_word k (some (enc L)) (i : Int) = _ := word_im k hk hL hpth k [] (by omega) (by simp; omega)
        have f2 : (if fidx (goal p) (enc L).1 = -1 then -1 else ((0 : Nat) : Int) + fidx (goal p) (enc L).1) = (i : Int) := by rw [f1, if_neg (by omega)]; omega
        rw [f2, if_neg (ndt (by omega)), c6]
        simp only [List.length_nil, Nat.zero_add, List.nil_append, List.reverse_reverse]
        by_cases hfar : (L.getD i e0).f ≤ 60
        · have s2 : sp_wyFirst k all p.2.2.1 p.2.2.2.1 p.2.2.2.2.1 = _ := wyFirst_loop k p (Int.not_lt.2 htop.1) ha hL hi hg hno hfar i k 0 (by omega) (by omega)
          have s3 : sp_wyWord k all (i : Int) = some (wd ++ []) := word_sp k hI ha hpth k [] (by omega) (by simp; omega)
          rw [List.append_nil] at s3
          rw [s3] at s2
          rw [if_neg (by omega)]
          refine ⟨wd, true, ?_, rfl, ?_⟩
          · refine (congrArg (fun z => Option.bind z _) s1).trans ?_
            rw [Option.bind_some]
            show (if (!decide ((L.getD i e0).f ≤ 60)) = true then _ else _) = _
            rw [if_neg (nnd hfar)]
            show Option.bind (sp_wyFirst k all p.2.2.1 p.2.2.2.1 p.2.2.2.2.1) _ = _
            rw [s2]; rfl
          · refine (congrArg (fun z => Option.bind z _) s1).trans ?_
            rw [Option.bind_some]
            show (if (!decide ((L.getD i e0).f ≤ 60)) = true then _ else _) = _
            rw [if_neg (nnd hfar), hlen]
        · rw [if_pos (by omega)]
          refine ⟨[], false, ?_, rfl, ?_⟩
          · refine (congrArg (fun z => Option.bind z _) s1).trans ?_
            rw [Option.bind_some]
            show (if (!decide ((L.getD i e0).f ≤ 60)) = true then _ else _) = _
            rw [if_pos (nd hfar)]
          · refine (congrArg (fun z => Option.bind z _) s1).trans ?_
            rw [Option.bind_some]
            show (if (!decide ((L.getD i e0).f ≤ 60)) = true then _ else _) = _
            rw [if_pos (nd hfar)]
            rfl
  · rw [d4, h3, h4]
    exact ⟨[], false, rfl, rfl, rfl⟩
end Ev
/- loop.example/g01207/laws.FnExactSolutionOf -/
namespace Ev
open Go Go.Proofs
/-! laws.FnExactSolutionOf -/
def la_FnExactSolutionOf_s (k : Nat) (x0 : tPuzzle.in) : Option Bool :=
  (la_szPuzzle k x0 (1048576 : Int)).bind fun r1 =>
  if (decide (r1 < (0 : Int))) = true then
    some true
  else
    (la_toPuzzle k x0).bind fun r2 =>
    (sp_SolutionOf k r2).bind fun r3 =>
    (la_toPuzzle k x0).bind fun r4 =>
    (im_SolutionOf k r4).bind fun r5 =>
    if (!decide (r5.1 = r3.1)) = true then
      some false
    else
      if (!(decide (r5.2.1 = r3.2.1))) = true then
        some false
      else
        some true
def la_FnExactSolutionOf (k : Nat) (x0 : tPuzzle.in) : Option Bool := la_FnExactSolutionOf_s k x0
noncomputable def la_FnExactSolutionOf_O (k : Nat) : Orc := { ps := [.v tPuzzle], rt := (.v T.b), F := fun x => la_FnExactSolutionOf k x.1 }
noncomputable def la_FnExactSolutionOf_E (k : Nat) : Env := { ty := tabTy Tryd_tab, ds := tabDs Tryd_tab, rounds := k, nt := 33, orc := fun g => if Nat.beq g 17 = true then some (la_szPuzzle_O k) else (if Nat.beq g 19 = true then some (la_toPuzzle_O k) else (if Nat.beq g 35 = true then some (sp_SolutionOf_O k) else (if Nat.beq g 36 = true then some (im_SolutionOf_O k) else (none)))), lp := fun _ => none, ct := fun _ => none, plan := fun _ => none }
noncomputable def la_FnExactSolutionOf_fin (k : Nat) : Kn Bool := finish (la_FnExactSolutionOf_E k) [.v tPuzzle] (.v T.b) Tryd.f12.results.toList
theorem la_FnExactSolutionOf_st (k : Nat) (x0 : tPuzzle.in) : evFun (la_FnExactSolutionOf_E k) [.v tPuzzle] (.v T.b) Tryd.f12 (x0, ()) = la_FnExactSolutionOf_s k x0 := by kernel_rfl
theorem la_FnExactSolutionOf_ev (k : Nat) (x0 : tPuzzle.in) : evFun (la_FnExactSolutionOf_E k) [.v tPuzzle] (.v T.b) Tryd.f12 (x0, ()) = la_FnExactSolutionOf k x0 := by
  skip
  rw [la_FnExactSolutionOf_st]; rfl
theorem la_FnExactSolutionOf_c (k : Nat) : Contract Tryd.prog 12 (la_FnExactSolutionOf_O k) :=
  fun_sound (c := bodyOf Tryd.f12) (tab_ok Tryd_tab_ok rfl rfl) (orc_cons (la_szPuzzle_c k) (orc_cons (la_toPuzzle_c k) (orc_cons (sp_SolutionOf_c k) (orc_cons (im_SolutionOf_c k) orc_nil)))) Tryd.func12 (by kernel_rfl) rfl (by kernel_rfl) (by decide) rfl rfl (by kernel_rfl) (by kernel_rfl) (by kernel_rfl) (fun x _ h => (la_FnExactSolutionOf_ev k x.1).trans h)
end Ev
/- The plain law of SolutionOf. -/
namespace Ev
open Go Go.Proofs
theorem law_SolutionOf (k : Nat) (hk : 1000000000 ≤ k) (x : tPuzzle.in) (h : tPuzzle.InR x) : la_FnExactSolutionOf k x = some true := by
  refine guard_puzzle k x h _ fun hl => ?_
  obtain ⟨wd, ok, e1, e2, e3⟩ := solution_is k hk x hl
  show ((sp_SolutionOf k x).bind fun r3 => (im_SolutionOf k x).bind fun r5 => _) = _
  rw [e1, e2, Option.bind_some, Option.bind_some, if_neg (nnd rfl), if_neg (nnd rfl)]
theorem pure_FnExactSolutionOf (x : tPuzzle.in) (h : tPuzzle.InR x) : ∃ k, la_FnExactSolutionOf k x = some true := ⟨1000000000, law_SolutionOf 1000000000 (Nat.le_refl _) x h⟩
end Ev
