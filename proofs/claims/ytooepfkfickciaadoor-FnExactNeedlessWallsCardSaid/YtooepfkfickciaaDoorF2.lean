/-
  What is proved here: the functions that the law reaches come to the printed functions, and plain facts of these. Conditions: those that each theorem names; none beyond.
-/
import Derived.Test.YtooepfkfickciaaDoorF1
/- Plain laws: all states that rolls reach, as both sides find them. -/
namespace Ev
open Go

theorem dieEq (x y : tDie.in) : tDie.eqv x y = true ↔ x = y := by
  obtain ⟨a, b, c, d, e, f, u⟩ := x
  obtain ⟨a', b', c', d', e', f', u'⟩ := y
  show (decide (a = a') && (decide (b = b') && (decide (c = c') && (decide (d = d') && (decide (e = e') && (decide (f = f') && true)))))) = true ↔ _
  simp
theorem stEq (x y : tState.in) : tState.eqv x y = true ↔ x = y := by
  obtain ⟨a, b, c, u⟩ := x
  obtain ⟨a', b', c', u'⟩ := y
  show (decide (a = a') && (decide (b = b') && (tDie.eqv c c' && true))) = true ↔ _
  rw [Bool.and_eq_true, Bool.and_eq_true, Bool.and_eq_true, dieEq]
  simp
/-- A state that is found: by which one before, by what direction, and how far it is. -/
structure En where
  s : tState.in
  b : Int
  d : Int
  f : Int
def e0 : En := ⟨sz0, 0, 0, 0⟩
def chrD (d : Int) : Int := ([110, 101, 115, 119] : List Int).getD d.toNat 0
theorem chrD_dir {d : Nat} (h : d < 4) : isDir (chrD (d : Int)) ∧ dirI (chrD (d : Int)) = (d : Int) := by
  match d, h with
  | 0, _ => exact ⟨by decide, rfl⟩
  | 1, _ => exact ⟨by decide, rfl⟩
  | 2, _ => exact ⟨by decide, rfl⟩
  | 3, _ => exact ⟨by decide, rfl⟩
def addE (g : List (List Int)) (L : List En) (q d : Nat) : List En :=
  if flo g (rol (L.getD q e0).s (chrD (d : Int))) = true ∧ rol (L.getD q e0).s (chrD (d : Int)) ∉ L.map En.s then L ++ [⟨rol (L.getD q e0).s (chrD (d : Int)), (q : Int), (d : Int), (L.getD q e0).f + 1⟩] else L
def adds (g : List (List Int)) (q : Nat) : Nat → Nat → List En → List En
  | 0, _, L => L
  | m + 1, d, L => adds g q m (d + 1) (addE g L q d)
structure Inv (g : List (List Int)) (s0 : tState.in) (L : List En) : Prop where
  nd : (L.map En.s).Nodup
  gd : ∀ e ∈ L, flo g e.s = true ∧ dieOk e.s.2.2.1 = true
  r0 : L.getD 0 e0 = ⟨s0, -1, 0, 0⟩
  ne : 0 < L.length
  fr : ∀ j, 0 < j → j < L.length → ∃ i d : Nat, (L.getD j e0).b = (i : Int) ∧ i < j ∧ (L.getD j e0).f = (L.getD i e0).f + 1 ∧ d < 4 ∧ (L.getD j e0).d = (d : Int) ∧ (L.getD j e0).s = rol (L.getD i e0).s (chrD (d : Int))
  fb : ∀ j, j < L.length → 0 ≤ (L.getD j e0).f ∧ (L.getD j e0).f ≤ (j : Int)
theorem gdl {α : Type} {z : α} (L : List α) (e : α) {j : Nat} (h : j < L.length) : (L ++ [e]).getD j z = L.getD j z := by simp [List.getD, List.getElem?_append, h]
theorem gdr {α : Type} {z : α} (L : List α) (e : α) : (L ++ [e]).getD L.length z = e := by simp [List.getD]
theorem gmem {α : Type} {z : α} (L : List α) {j : Nat} (h : j < L.length) : L.getD j z ∈ L := by rw [gd _ _ _ h]; exact List.getElem_mem h
theorem gmap {α β : Type} {z : α} (f : α → β) (L : List α) (y : β) {j : Nat} (h : j < L.length) : (L.map f).getD j y = f (L.getD j z) := by
  rw [gd _ _ _ (by simpa using h), gd _ _ _ h]; simp
def dgt (x : Int) : Prop := 0 ≤ x ∧ x ≤ 9
def rngI (x : Int) (n : Nat) : Prop := 0 ≤ x ∧ x < (n : Int)
theorem dieOk_iff (d : tDie.in) : dieOk d = true ↔ dgt d.1 ∧ dgt d.2.1 ∧ dgt d.2.2.1 ∧ dgt d.2.2.2.1 ∧ dgt d.2.2.2.2.1 ∧ dgt d.2.2.2.2.2.1 := by
  unfold dieOk faces dgt
  simp only [List.all_cons, List.all_nil, Bool.and_true, Bool.and_eq_true, decide_eq_true_eq]
theorem dieOk_rol (d : tDie.in) (c : Int) (h : dieOk d = true) : dieOk (rolD d c) = true := by
  rw [dieOk_iff] at h ⊢
  obtain ⟨h1, h2, h3, h4, h5, h6⟩ := h
  unfold rolD
  split
  · exact ⟨h4, h1, h3, h6, h5, h2⟩
  · split
    · exact ⟨h5, h2, h1, h4, h6, h3⟩
    · split
      · exact ⟨h2, h6, h3, h1, h5, h4⟩
      · exact ⟨h3, h2, h6, h4, h1, h5⟩
theorem Inv.add {g : List (List Int)} {s0 : tState.in} {L : List En} (h : Inv g s0 L) {q d : Nat} (hq : q < L.length) (hd : d < 4) : Inv g s0 (addE g L q d) ∧ L.length ≤ (addE g L q d).length := by
  unfold addE
  split
  · rename_i hc
    have hq0 := h.fb q hq
    have hgq := h.gd _ (gmem (z := e0) L hq)
    refine ⟨⟨?_, ?_, ?_, by simp, ?_, ?_⟩, by simp⟩
    · rw [List.map_append, List.nodup_append]
      refine ⟨h.nd, by simp, fun a ha b hb e => ?_⟩
      simp only [List.map_cons, List.map_nil, List.mem_singleton] at hb
      subst hb
      exact hc.2 (e ▸ ha)
    · intro e he
      rcases List.mem_append.1 he with he | he
      · exact h.gd e he
      · rw [List.mem_singleton] at he
        subst he
        exact ⟨hc.1, dieOk_rol _ _ hgq.2⟩
    · rw [gdl L _ h.ne]; exact h.r0
    · intro j hj hl
      rw [List.length_append, List.length_singleton] at hl
      by_cases hjl : j < L.length
      · obtain ⟨i, d', h1, h2, h3, h4, h5, h6⟩ := h.fr j hj hjl
        have hil : i < L.length := by omega
        exact ⟨i, d', by rw [gdl L _ hjl]; exact h1, h2, by rw [gdl L _ hjl, gdl L _ hil]; exact h3, h4, by rw [gdl L _ hjl]; exact h5, by rw [gdl L _ hjl, gdl L _ hil]; exact h6⟩
      · obtain rfl : j = L.length := by omega
        exact ⟨q, d, by rw [gdr], hq, by rw [gdr, gdl L _ hq], hd, by rw [gdr], by rw [gdr, gdl L _ hq]⟩
    · intro j hl
      rw [List.length_append, List.length_singleton] at hl
      by_cases hjl : j < L.length
      · rw [gdl L _ hjl]; exact h.fb j hjl
      · obtain rfl : j = L.length := by omega
        rw [gdr]
        show 0 ≤ (L.getD q e0).f + 1 ∧ (L.getD q e0).f + 1 ≤ _
        omega
  · exact ⟨h, Nat.le_refl _⟩
theorem Inv.adds {g : List (List Int)} {s0 : tState.in} {q : Nat} : ∀ (m d : Nat) (L : List En), Inv g s0 L → q < L.length → d + m = 4 → Inv g s0 (adds g q m d L) ∧ L.length ≤ (adds g q m d L).length
  | 0, _, L, h, _, _ => ⟨h, Nat.le_refl _⟩
  | m + 1, d, L, h, hq, hm => by
    obtain ⟨h1, h2⟩ := h.add hq (d := d) (by omega)
    obtain ⟨h3, h4⟩ := Inv.adds (q := q) m (d + 1) (addE g L q d) h1 (by omega) (by omega)
    exact ⟨h3, Nat.le_trans h2 h4⟩

/-! ### Numbers of states -/
def posN (w : Nat) (x y : Int) : Int := y * (w : Int) + x
def codeN (p a b c d e f : Int) : Int := 10 * (10 * (10 * (10 * (10 * (10 * p + a) + b) + c) + d) + e) + f
def codeP (w : Nat) (s : tState.in) : Int := codeN (posN w s.1 s.2.1) s.2.2.1.1 s.2.2.1.2.1 s.2.2.1.2.2.1 s.2.2.1.2.2.2.1 s.2.2.1.2.2.2.2.1 s.2.2.1.2.2.2.2.2.1
theorem flo_in {g : List (List Int)} {w h : Nat} (r : Rc g w h) {s : tState.in} (hf : flo g s = true) : rngI s.2.1 h ∧ rngI s.1 w := by
  have h1 := of_decide_eq_true hf
  unfold cell at h1
  rw [r.row0, r.len] at h1
  split at h1
  · assumption
  · cases h1
theorem pos_bd {w h : Nat} (w7 : w ≤ 7) (_h7 : h ≤ 7) {x y : Int} (hy : rngI y h) (hx : rngI x w) : (0 ≤ y * (w : Int) ∧ y * (w : Int) ≤ 48) ∧ 0 ≤ posN w x y ∧ posN w x y ≤ 48 := by
  obtain ⟨a1, a2⟩ := hy
  obtain ⟨b1, b2⟩ := hx
  obtain ⟨y, rfl⟩ := Int.eq_ofNat_of_zero_le a1
  have : (y + 1) * w ≤ 7 * 7 := Nat.mul_le_mul (by omega) w7
  rw [Nat.add_mul] at this
  unfold posN
  rw [mulI]
  omega
theorem pos_inj {w : Nat} {x y x' y' : Int} (hx : rngI x w) (hx' : rngI x' w) (he : posN w x y = posN w x' y') : x = x' ∧ y = y' := by
  obtain ⟨b1, b2⟩ := hx
  obtain ⟨c1, c2⟩ := hx'
  unfold posN at he
  have ey : y = y' := by
    rcases Int.lt_trichotomy y y' with q | q | q
    · have := Int.mul_le_mul_of_nonneg_right (show y + 1 ≤ y' by omega) (show (0 : Int) ≤ (w : Int) by omega)
      rw [Int.add_mul] at this
      omega
    · exact q
    · have := Int.mul_le_mul_of_nonneg_right (show y' + 1 ≤ y by omega) (show (0 : Int) ≤ (w : Int) by omega)
      rw [Int.add_mul] at this
      omega
  subst ey
  exact ⟨by omega, rfl⟩
theorem codeN_bd {p a b c d e f : Int} (_hp : 0 ≤ p ∧ p ≤ 48) (_h1 : dgt a) (_h2 : dgt b) (_h3 : dgt c) (_h4 : dgt d) (_h5 : dgt e) (_h6 : dgt f) : 0 ≤ codeN p a b c d e f ∧ codeN p a b c d e f < 49000000 := by
  unfold dgt at *
  unfold codeN
  omega
theorem codeN_inj {p a b c d e f p' a' b' c' d' e' f' : Int} (_h1 : dgt a) (_h2 : dgt b) (_h3 : dgt c) (_h4 : dgt d) (_h5 : dgt e) (_h6 : dgt f) (_k1 : dgt a') (_k2 : dgt b') (_k3 : dgt c') (_k4 : dgt d') (_k5 : dgt e') (_k6 : dgt f')
    (he : codeN p a b c d e f = codeN p' a' b' c' d' e' f') : p = p' ∧ a = a' ∧ b = b' ∧ c = c' ∧ d = d' ∧ e = e' ∧ f = f' := by
  unfold dgt at *
  unfold codeN at he
  have e6 : f = f' := by omega
  have e5 : e = e' := by omega
  have e4 : d = d' := by omega
  have e3 : c = c' := by omega
  have e2 : b = b' := by omega
  have e1 : a = a' := by omega
  exact ⟨by omega, e1, e2, e3, e4, e5, e6⟩
theorem code_bd {g : List (List Int)} {w h : Nat} (r : Rc g w h) {s : tState.in} (hf : flo g s = true) (hd : dieOk s.2.2.1 = true) : 0 ≤ codeP w s ∧ codeP w s < 49000000 := by
  obtain ⟨a1, a2⟩ := flo_in r hf
  obtain ⟨h1, h2, h3, h4, h5, h6⟩ := (dieOk_iff _).1 hd
  exact codeN_bd (pos_bd r.w7 r.h7 a1 a2).2 h1 h2 h3 h4 h5 h6
theorem code_inj {g : List (List Int)} {w h : Nat} (r : Rc g w h) {s t : tState.in} (hf : flo g s = true) (hd : dieOk s.2.2.1 = true) (hf' : flo g t = true) (hd' : dieOk t.2.2.1 = true) (he : codeP w s = codeP w t) : s = t := by
  obtain ⟨_, a2⟩ := flo_in r hf
  obtain ⟨_, a2'⟩ := flo_in r hf'
  obtain ⟨h1, h2, h3, h4, h5, h6⟩ := (dieOk_iff _).1 hd
  obtain ⟨h1', h2', h3', h4', h5', h6'⟩ := (dieOk_iff _).1 hd'
  obtain ⟨ep, e1, e2, e3, e4, e5, e6⟩ := codeN_inj h1 h2 h3 h4 h5 h6 h1' h2' h3' h4' h5' h6' he
  obtain ⟨ex, ey⟩ := pos_inj a2 a2' ep
  obtain ⟨sx, sy, ⟨s1, s2, s3, s4, s5, s6, su⟩, su2⟩ := s
  obtain ⟨tx, ty, ⟨t1, t2, t3, t4, t5, t6, tu⟩, tu2⟩ := t
  simp only at ex ey e1 e2 e3 e4 e5 e6
  subst ex ey e1 e2 e3 e4 e5 e6
  rfl
theorem code_step (k n : Nat) (out : Int) (l : List Int) (j : Nat) (f : Int) (_hl : l.length = 6) (_hj : j < 6) (hf : l.getD j 0 = f) (_h0 : 0 ≤ out ∧ out ≤ 100000000) (_h1 : 0 ≤ f ∧ f ≤ 9) :
    sp_wyCode_l3 k (n + 1) out l 6 (j : Int) = sp_wyCode_l3 k n (10 * out + f) l 6 ((j + 1 : Nat) : Int) := by
  show sp_wyCode_l3s k _ _ _ _ _ = _
  unfold sp_wyCode_l3s
  have e1 : l.getD (j : Int).toNat 0 = f := hf
  rw [if_pos (dt (by omega)), inb_eq (by omega), e1, wr (x := 10 * out) (by omega), wr (by omega), wr (by omega)]
  rfl
theorem code_is (k : Nat) (_hk : 2097152 ≤ k) {g : List (List Int)} {w h : Nat} (r : Rc g w h) {s : tState.in} (hf : flo g s = true) (hd : dieOk s.2.2.1 = true) : sp_wyCode k (gr g w h) s = some (codeP w s) := by
  obtain ⟨a1, a2⟩ := flo_in r hf
  obtain ⟨h1, h2, h3, h4, h5, h6⟩ := (dieOk_iff _).1 hd
  obtain ⟨⟨p1, p2⟩, p3, p4⟩ := pos_bd r.w7 r.h7 a1 a2
  obtain ⟨n, rfl⟩ : ∃ n, k = n + 7 := ⟨k - 7, by omega⟩
  have gen : ∀ (x y a b c d e f : Int), 0 ≤ y * (w : Int) ∧ y * (w : Int) ≤ 48 → 0 ≤ posN w x y ∧ posN w x y ≤ 48 → dgt a → dgt b → dgt c → dgt d → dgt e → dgt f →
      sp_wyCode_l3 (n + 7) (n + 7) (IntKind.i64.wrap (IntKind.i64.wrap (y * (w : Int)) + x)) [a, b, c, d, e, f] 6 ((0 : Nat) : Int) = some (codeN (posN w x y) a b c d e f) := by
    intro x y a b c d e f q1 q2 h1 h2 h3 h4 h5 h6
    unfold dgt at *
    have q3 : y * (w : Int) + x = posN w x y := rfl
    rw [wr (x := y * (w : Int)) (by omega), q3, wr (by omega)]
    rw [code_step _ (n + 6) _ _ 0 a rfl (by omega) rfl (by omega) h1]
    rw [code_step _ (n + 5) _ _ 1 b rfl (by omega) rfl (by omega) h2]
    rw [code_step _ (n + 4) _ _ 2 c rfl (by omega) rfl (by omega) h3]
    rw [code_step _ (n + 3) _ _ 3 d rfl (by omega) rfl (by omega) h4]
    rw [code_step _ (n + 2) _ _ 4 e rfl (by omega) rfl (by omega) h5]
    rw [code_step _ (n + 1) _ _ 5 f rfl (by omega) rfl (by omega) h6]
    show sp_wyCode_l3s (n + 7) _ _ _ _ _ = _
    unfold sp_wyCode_l3s
    rw [if_neg (ndt (by decide))]
    rfl
  exact gen s.1 s.2.1 _ _ _ _ _ _ ⟨p1, p2⟩ ⟨p3, p4⟩ h1 h2 h3 h4 h5 h6
theorem nodup_bd : ∀ (N : Nat) (l : List Int), l.Nodup → (∀ x ∈ l, 0 ≤ x ∧ x < (N : Int)) → l.length ≤ N
  | 0, l, _, h => by
    cases l with
    | nil => simp
    | cons x l => have := h x List.mem_cons_self; omega
  | N + 1, l, hn, h => by
    have h1 : (l.filter fun x => decide (x ≠ (N : Int))).length ≤ N := by
      refine nodup_bd N _ (hn.filter _) fun x hx => ?_
      rw [List.mem_filter] at hx
      have h1 := h x hx.1
      have h2 := of_decide_eq_true hx.2
      omega
    have h2 : l.length ≤ (l.filter fun x => decide (x ≠ (N : Int))).length + 1 := by
      clear h h1
      induction l with
      | nil => simp
      | cons x l ih =>
        have hn' := List.nodup_cons.1 hn
        by_cases hx : x = (N : Int)
        · subst hx
          have e : (l.filter fun x => decide (x ≠ (N : Int))) = l := List.filter_eq_self.2 fun y hy => decide_eq_true (fun q => hn'.1 (q ▸ hy))
          rw [List.filter_cons_of_neg (by simp), e]; simp
        · rw [List.filter_cons_of_pos (by simp [hx])]
          have := ih hn'.2
          simp only [List.length_cons]; omega
    omega
theorem Inv.codes {g : List (List Int)} {s0 : tState.in} {L : List En} (h : Inv g s0 L) {w hh : Nat} (r : Rc g w hh) : (L.map fun e => codeP w e.s).Nodup := by
  have hnd := h.nd
  have hgd := h.gd
  clear h
  induction L with
  | nil => simp
  | cons e L ih =>
    rw [List.map_cons, List.nodup_cons] at hnd ⊢
    refine ⟨fun q => ?_, ih hnd.2 (fun e he => hgd e (List.mem_cons_of_mem _ he))⟩
    obtain ⟨e', he', hc⟩ := List.mem_map.1 q
    have h1 := hgd e List.mem_cons_self
    have h2 := hgd e' (List.mem_cons_of_mem _ he')
    have := code_inj r h2.1 h2.2 h1.1 h1.2 hc
    exact hnd.1 (List.mem_map.2 ⟨e', he', this⟩)
theorem Inv.bd {g : List (List Int)} {s0 : tState.in} {L : List En} (h : Inv g s0 L) {w hh : Nat} (r : Rc g w hh) : L.length ≤ 49000000 := by
  have := nodup_bd 49000000 _ (h.codes r) (fun x hx => by
    obtain ⟨e, he, rfl⟩ := List.mem_map.1 hx
    have h1 := h.gd e he
    have := code_bd r h1.1 h1.2
    omega)
  simpa using this
theorem place_loop (k : Nat) (c : Int) (l : List Int) (hl : l.length ≤ 1000000000) : ∀ (d n j : Nat), l.length = j + d → d < n →
    sp_wyPlace_l2 k n c l (l.length : Int) (j : Int) = some (if fidx (fun x => decide (x = c)) (l.drop j) = -1 then -1 else (j : Int) + fidx (fun x => decide (x = c)) (l.drop j))
  | 0, n + 1, j, h, _ => by
    show sp_wyPlace_l2s k _ _ _ _ _ = _
    unfold sp_wyPlace_l2s
    rw [if_neg (ndt (by omega)), List.drop_of_length_le (by omega)]; rfl
  | d + 1, n + 1, j, h, hn => by
    show sp_wyPlace_l2s k _ _ _ _ _ = _
    unfold sp_wyPlace_l2s
    have hd := getD_drop l j 0 (by omega)
    have e1 : rdT I l (j : Int) = l.getD j 0 := rfl
    have ih := place_loop k c l hl d n (j + 1) (by omega) (by omega)
    have hg := fidx_ge (fun x => decide (x = c)) (l.drop (j + 1))
    rw [if_pos (dt (by omega)), inb_eq (by omega), e1, hd]
    unfold fidx
    by_cases hp : l.getD j 0 = c
    · rw [if_pos (dt hp), if_pos (dt hp), if_neg (by omega)]; simp
    · rw [if_neg (ndt hp), if_neg (ndt hp), wr (by omega)]
      refine (show _ = _ from ih).trans ?_
      by_cases h2 : fidx (fun x => decide (x = c)) (l.drop (j + 1)) = -1
      · rw [if_pos h2, if_pos h2, if_pos rfl]
      · rw [if_neg h2, if_neg h2, if_neg (by omega)]; congr 1; omega
theorem place_is (k : Nat) (_hk : 1000000000 ≤ k) (l : List Int) (c : Int) (_hl : l.length ≤ 100000000) : sp_wyPlace k l c = some (fidx (fun x => decide (x = c)) l) := by
  refine (place_loop k c l (by omega) l.length k 0 (by omega) (by omega)).trans ?_
  rw [List.drop_zero]
  by_cases h : fidx (fun x => decide (x = c)) l = -1
  · rw [if_pos h, h]
  · rw [if_neg h]; simp

/-! ### The program's search -/
def pl : Nat → List En → List (tState.in × Int)
  | _, [] => []
  | i, e :: L => (e.s, (i : Int)) :: pl (i + 1) L
theorem lk_cons (p : tState.in × Int) (l : List (tState.in × Int)) (t : tState.in) : lk tState I (p :: l) t = if tState.eqv t p.1 = true then some p.2 else lk tState I l t := by
  unfold lk
  rw [List.find?_cons]
  cases tState.eqv t p.1 <;> rfl
theorem lk_pl (t : tState.in) : ∀ (L : List En) (i : Nat), (lk tState I (pl i L) t).isSome = true ↔ t ∈ L.map En.s
  | [], _ => by simp [lk, pl]
  | e :: L, i => by
    have ih := lk_pl t L (i + 1)
    show (lk tState I ((e.s, (i : Int)) :: pl (i + 1) L) t).isSome = true ↔ _
    rw [lk_cons, List.map_cons, List.mem_cons]
    by_cases h : t = e.s
    · rw [if_pos ((stEq _ _).2 h)]; simp [h]
    · rw [if_neg (fun q => h ((stEq _ _).1 q)), ih]
      simp [h]
theorem up_pl (t : tState.in) (n : Int) : ∀ (L : List En) (i : Nat), t ∉ L.map En.s → up tState I (pl i L) t n = pl i L ++ [(t, n)]
  | [], _, _ => rfl
  | e :: L, i, h => by
    rw [List.map_cons, List.mem_cons] at h
    have ih := up_pl t n L (i + 1) (fun q => h (.inr q))
    show (if tState.eqv t e.s = true then _ else _) = _
    rw [if_neg (fun q => h (.inl ((stEq _ _).1 q)))]
    show _ :: up tState I (pl (i + 1) L) t n = _
    rw [ih]; rfl
theorem pl_app (e : En) : ∀ (L : List En) (i : Nat), pl i (L ++ [e]) = pl i L ++ [(e.s, ((i + L.length : Nat) : Int))]
  | [], _ => rfl
  | x :: L, i => by
    have ih := pl_app e L (i + 1)
    show _ :: pl (i + 1) (L ++ [e]) = _
    rw [ih]
    have : i + 1 + L.length = i + (x :: L).length := by simp; omega
    rw [this]; rfl
def chE (e : En) : Int := if e.b < 0 then 0 else chrD e.d
def enc (L : List En) : treach.in := (L.map En.s, L.map En.b, L.map chE, L.map En.f, pl 0 L, ())
theorem re_in (k : Nat) {g : List (List Int)} {w h : Nat} (r : Rc g w h) {s0 : tState.in} (mv : tState.in × (Int × Unit) → Option (tState.in × (Bool × Unit))) (hmv : ∀ s c, mv (s, c, ()) = some (rol s c, flo g (rol s c), ())) (g3 : (tState.in × (Int × Unit) → Option (tState.in × (Bool × Unit))) → ((List tState.in) × ((List Int) × ((List Int) × ((List Int) × ((List (tState.in × Int)) × Unit))))) → Int → Option (Option treach.in)) (q : Nat) : ∀ (m n d : Nat) (L : List En), d + m = 4 → m < n → Inv g s0 L → q < L.length →
    im_reached_l6 k g3 n mv (enc L) (q : Int) (d : Int) = g3 mv (enc (adds g q m d L)) ((q + 1 : Nat) : Int)
  | 0, n + 1, d, L, hd, _, hI, hq => by
    have := hI.bd r
    show im_reached_l6s k _ _ _ _ _ _ = _
    unfold im_reached_l6s
    rw [if_neg (ndt (by omega)), wr (by omega)]
    rfl
  | m + 1, n + 1, d, L, hd, hn, hI, hq => by
    have hb := hI.bd r
    have hfb := hI.fb q hq
    obtain ⟨hI2, hl2⟩ := hI.add hq (d := d) (by omega)
    have ih := re_in k r mv hmv g3 q m n (d + 1) (addE g L q d) (by omega) (by omega) hI2 (by omega)
    show im_reached_l6s k _ _ _ _ _ _ = _
    unfold im_reached_l6s
    have ec : ([110, 101, 115, 119] : List Int).getD (d : Int).toNat 0 = chrD (d : Int) := rfl
    have es : (enc L).1.getD (q : Int).toNat ((0 : Int), (0 : Int), ((0 : Int), (0 : Int), (0 : Int), (0 : Int), (0 : Int), (0 : Int), ()), ()) = (L.getD q e0).s := gmap (z := e0) En.s L _ hq
    have ef : (enc L).2.2.2.1.getD (q : Int).toNat (0 : Int) = (L.getD q e0).f := gmap (z := e0) En.f L _ hq
    have l1 : (enc L).1.length = L.length := List.length_map ..
    have l2 : (enc L).2.1.length = L.length := List.length_map ..
    have l3 : (enc L).2.2.1.length = L.length := List.length_map ..
    have l4 : (enc L).2.2.2.1.length = L.length := List.length_map ..
    have ln : (([110, 101, 115, 119] : List Int).length : Int) = 4 := rfl
    rw [if_pos (dt (by omega)), inb_eq (by rw [l1]; omega), inb_eq (by rw [ln]; omega), ec, es, hmv, Option.bind_some, wr (x := (d : Int) + 1) (by omega)]
    show _ = g3 mv (enc (adds g q m (d + 1) (addE g L q d))) _
    rw [← ih]
    show (if (!flo g (rol (L.getD q e0).s (chrD (d : Int)))) = true then _ else _) = _
    by_cases hf : flo g (rol (L.getD q e0).s (chrD (d : Int))) = true
    · rw [if_neg (by rw [hf]; decide)]
      show (if (lk tState I (pl 0 L) (rol (L.getD q e0).s (chrD (d : Int)))).isSome = true then _ else _) = _
      by_cases hm : rol (L.getD q e0).s (chrD (d : Int)) ∈ L.map En.s
      · rw [if_pos ((lk_pl _ L 0).2 hm)]
        have : addE g L q d = L := by unfold addE; rw [if_neg (fun z => z.2 hm)]
        rw [this]
        rfl
      · rw [if_neg (fun z => hm ((lk_pl _ L 0).1 z)), inb_eq (by rw [ln]; omega), inb_eq (by rw [l4]; omega), if_pos (by rw [l1]; simp; omega), if_pos (by rw [l2]; simp; omega), if_pos (by rw [l3]; simp; omega), if_pos (by rw [l4]; simp; omega), ef, wr (by omega)]
        have he : addE g L q d = L ++ [⟨rol (L.getD q e0).s (chrD (d : Int)), (q : Int), (d : Int), (L.getD q e0).f + 1⟩] := by unfold addE; rw [if_pos ⟨hf, hm⟩]
        rw [he]
        have eu : up tState I (enc L).2.2.2.2.1 (rol (L.getD q e0).s (chrD (d : Int))) ((enc L).1.length : Int) = pl 0 (L ++ [⟨rol (L.getD q e0).s (chrD (d : Int)), (q : Int), (d : Int), (L.getD q e0).f + 1⟩]) := by
          rw [pl_app, l1, Nat.zero_add]
          exact up_pl _ _ L 0 hm
        rw [eu]
        have ecn : chE ⟨rol (L.getD q e0).s (chrD (d : Int)), (q : Int), (d : Int), (L.getD q e0).f + 1⟩ = chrD (d : Int) := if_neg (show ¬ ((q : Int) < 0) by omega)
        unfold enc
        simp only [List.map_append, List.map_cons, List.map_nil, ecn]
        rfl
    · rw [if_pos (by simpa using hf)]
      have : addE g L q d = L := by unfold addE; rw [if_neg (fun z => hf z.1)]
      rw [this]
      rfl

/-! ### The reference's search -/
def zN : twyNode.in := (((0 : Int), (0 : Int), ((0 : Int), (0 : Int), (0 : Int), (0 : Int), (0 : Int), (0 : Int), ()), ()), (0 : Int), (0 : Int), (0 : Int), (0 : Int), (List.replicate 4 (0 : Int)), ())
def setNx (x : twyNode.in) (i v : Int) : twyNode.in := (x.1, x.2.1, x.2.2.1, x.2.2.2.1, x.2.2.2.2.1, x.2.2.2.2.2.1.set i.toNat v, x.2.2.2.2.2.2)
def addW (a b : twyNode.in) : twyNode.in := (a.1, a.2.1, IntKind.i64.wrap (a.2.2.1 + b.2.2.1), a.2.2.2)
abbrev G4 := tboGrid.in → (List twyNode.in) → (List Int) → Int → Option (List twyNode.in)
abbrev G7 := tboGrid.in → (List twyNode.in) → (List Int) → Int → Int → Option (List twyNode.in)
theorem j19_eq (k : Nat) (g4 : G4) (g7 : G7) (x2 : tboGrid.in) (x5 : List twyNode.in) (x6 : List Int) (x7 x8 x11 : Int) :
    sp_wyAll_j19s k g4 g7 x2 x5 x6 x7 x8 x11 = inb x7 x5.length (inb x8 4 (g7 x2 (x5.set x7.toNat (setNx (x5.getD x7.toNat zN) x8 x11)) x6 x7 (IntKind.i64.wrap (x8 + 1)))) := rfl
theorem j17_eq (k : Nat) (c19 : G4 → G7 → tboGrid.in → (List twyNode.in) → (List Int) → Int → Int → Int → Option (List twyNode.in)) (g4 : G4) (g7 : G7) (x2 : tboGrid.in) (x5 : List twyNode.in) (x6 : List Int) (x7 x8 x11 : Int) :
    sp_wyAll_j17s k c19 g4 g7 x2 x5 x6 x7 x8 x11 = inb x11 x5.length (inb x7 x5.length (if decide ((x5.getD x11.toNat zN).2.1 = IntKind.i64.wrap ((x5.getD x7.toNat zN).2.1 + 1)) = true then
      inb x11 x5.length (inb x7 x5.length (inb x11 x5.length (c19 g4 g7 x2 (x5.set x11.toNat (addW (x5.getD x11.toNat zN) (x5.getD x7.toNat zN))) x6 x7 x8 x11))) else c19 g4 g7 x2 x5 x6 x7 x8 x11)) := rfl
theorem l7_eq (k : Nat) (c17 : G4 → G7 → tboGrid.in → (List twyNode.in) → (List Int) → Int → Int → Int → Option (List twyNode.in)) (g4 : G4) (g7 : G7) (x2 : tboGrid.in) (x5 y5 : List twyNode.in) (x6 : List Int) (x7 x8 : Int) (hy : x5.set x7.toNat (setNx (x5.getD x7.toNat zN) x8 (-1)) = y5) :
    sp_wyAll_l7s k c17 g4 g7 x2 x5 x6 x7 x8 = if decide (x8 < 4) = true then inb x7 x5.length (inb x8 4 (inb x7 y5.length ((sp_boRoll k x2 (y5.getD x7.toNat zN).1 x8).bind fun r2 =>
      if (!r2.2.1) = true then g7 x2 y5 x6 x7 (IntKind.i64.wrap (x8 + 1)) else (sp_wyCode k x2 r2.1).bind fun r3 => (sp_wyPlace k x6 r3).bind fun r4 =>
        if decide (r4 < 0) = true then inb x7 y5.length (if y5.length + ([(r2.1, IntKind.i64.wrap ((y5.getD x7.toNat zN).2.1 + 1), (0 : Int), x7, x8, List.replicate 4 (0 : Int), ())] : List twyNode.in).length ≤ 17179869184 then ((sp_wyCode k x2 r2.1).bind fun r5 =>
          if x6.length + ([r5] : List Int).length ≤ 17179869184 then (c17 g4 g7 x2 (y5 ++ [(r2.1, IntKind.i64.wrap ((y5.getD x7.toNat zN).2.1 + 1), (0 : Int), x7, x8, List.replicate 4 (0 : Int), ())]) (x6 ++ [r5]) x7 x8 (y5.length : Int)) else none) else none)
        else c17 g4 g7 x2 y5 x6 x7 x8 r4))) else g4 x2 x5 x6 (IntKind.i64.wrap (x7 + 1)) := by
  subst hy; rfl
def pj (x : twyNode.in) : tState.in × Int × Int × Int := (x.1, x.2.1, x.2.2.2.1, x.2.2.2.2.1)
def pe (e : En) : tState.in × Int × Int × Int := (e.s, e.f, e.b, e.d)
structure Rel (w : Nat) (L : List En) (all : List twyNode.in) (codes : List Int) : Prop where
  a : all.map pj = L.map pe
  c : codes = L.map fun e => codeP w e.s
theorem Rel.len {w : Nat} {L : List En} {all : List twyNode.in} {codes : List Int} (h : Rel w L all codes) : all.length = L.length ∧ codes.length = L.length := by
  have := congrArg List.length h.a
  rw [List.length_map, List.length_map] at this
  exact ⟨this, by rw [h.c, List.length_map]⟩
theorem Rel.at {w : Nat} {L : List En} {all : List twyNode.in} {codes : List Int} (h : Rel w L all codes) {j : Nat} (hj : j < L.length) : pj (all.getD j zN) = pe (L.getD j e0) := by
  rw [← gmap (z := e0) pe L (pj zN) hj, ← h.a, gmap (z := zN) pj all (pj zN) (by rw [h.len.1]; exact hj)]
theorem map_set {α β : Type} {z : α} (f : α → β) (a : α) : ∀ (l : List α) (i : Nat), (i < l.length → f a = f (l.getD i z)) → (l.set i a).map f = l.map f
  | [], _, _ => rfl
  | x :: l, 0, h => by
    have : f a = f x := h (by simp)
    simp [this]
  | x :: l, i + 1, h => by
    have := map_set (z := z) f a l i (fun hi => h (by simpa using hi))
    simp [this]
theorem Rel.set {w : Nat} {L : List En} {all : List twyNode.in} {codes : List Int} (h : Rel w L all codes) (i : Nat) (a : twyNode.in) (ha : pj a = pj (all.getD i zN)) : Rel w L (all.set i a) codes :=
  ⟨(map_set (z := zN) pj a all i (fun _ => ha)).trans h.a, h.c⟩
theorem j17_is (k : Nat) (_hk : 0 < k) {w : Nat} {L : List En} {all : List twyNode.in} {codes : List Int} (h : Rel w L all codes) (g4 : G4) (g7 : G7) (x2 : tboGrid.in) {q d : Nat} {x : Int} (_hq : q < L.length) (_hd : d < 4) (_hx : 0 ≤ x ∧ x < (L.length : Int)) :
    ∃ all', Rel w L all' codes ∧ sp_wyAll_j17 k g4 g7 k x2 all codes (q : Int) (d : Int) x = g7 x2 all' codes (q : Int) ((d + 1 : Nat) : Int) := by
  obtain ⟨k, rfl⟩ : ∃ j, k = j + 1 := ⟨k - 1, by omega⟩
  have hl := h.len.1
  have h19 : ∀ A : List twyNode.in, Rel w L A codes → ∃ all', Rel w L all' codes ∧ sp_wyAll_j19 (k + 1) g4 g7 (k + 1) x2 A codes (q : Int) (d : Int) x = g7 x2 all' codes (q : Int) ((d + 1 : Nat) : Int) := by
    intro A hA
    refine ⟨_, hA.set q (setNx (A.getD q zN) (d : Int) x) rfl, ?_⟩
    show sp_wyAll_j19s (k + 1) g4 g7 _ _ _ _ _ _ = _
    rw [j19_eq, inb_eq (by have := hA.len.1; omega), inb_eq (by omega), wr (by omega)]
    rfl
  show ∃ all', Rel w L all' codes ∧ sp_wyAll_j17s (k + 1) (fun g0 g1 => sp_wyAll_j19 (k + 1) g0 g1 (k + 1)) g4 g7 x2 all codes (q : Int) (d : Int) x = g7 x2 all' codes (q : Int) ((d + 1 : Nat) : Int)
  rw [j17_eq, inb_eq (by omega), inb_eq (by omega)]
  split
  · rw [inb_eq (by omega), inb_eq (by omega), inb_eq (by omega)]
    exact h19 _ (h.set _ _ rfl)
  · exact h19 _ h
theorem wy_in (k : Nat) (hk : 1000000000 ≤ k) {g : List (List Int)} {w h : Nat} (r : Rc g w h) {s0 : tState.in} (g4 : G4) (q : Nat) : ∀ (m n d : Nat) (L : List En) (all : List twyNode.in) (codes : List Int), d + m = 4 → m < n → Inv g s0 L → q < L.length → Rel w L all codes →
    ∃ all' codes', Rel w (adds g q m d L) all' codes' ∧ sp_wyAll_l7 k g4 n (gr g w h) all codes (q : Int) (d : Int) = g4 (gr g w h) all' codes' ((q + 1 : Nat) : Int)
  | 0, n + 1, d, L, all, codes, hd, _, hI, hq, hR => by
    have := hI.bd r
    refine ⟨all, codes, hR, ?_⟩
    show sp_wyAll_l7s k _ _ _ _ _ _ _ _ = _
    rw [l7_eq k _ _ _ _ _ _ _ _ _ rfl, if_neg (ndt (by omega)), wr (by omega)]
    rfl
  | m + 1, n + 1, d, L, all, codes, hd, hn, hI, hq, hR => by
    have hb := hI.bd r
    have hfb := hI.fb q hq
    have hgq := hI.gd _ (gmem (z := e0) L hq)
    have hdir := chrD_dir (d := d) (by omega)
    obtain ⟨hI2, hl2⟩ := hI.add hq (d := d) (by omega)
    have hl := hR.len
    have hR5 : Rel w L (all.set q (setNx (all.getD q zN) (d : Int) (-1))) codes := hR.set q _ rfl
    generalize hy : all.set q (setNx (all.getD q zN) (d : Int) (-1)) = y5 at hR5
    have hl5 := hR5.len.1
    have hat := hR5.at hq
    have es : (y5.getD q zN).1 = (L.getD q e0).s := congrArg Prod.fst hat
    have ef : (y5.getD q zN).2.1 = (L.getD q e0).f := congrArg (fun z => z.2.1) hat
    have eq : (q : Int).toNat = q := by omega
    have ih := fun A C hR => wy_in k hk r g4 q m n (d + 1) (addE g L q d) A C (by omega) (by omega) hI2 (by omega) hR
    show ∃ all' codes', Rel w (adds g q m (d + 1) (addE g L q d)) all' codes' ∧ sp_wyAll_l7s k (fun g0 g1 => sp_wyAll_j17 k g0 g1 k) g4 (sp_wyAll_l7 k g4 n) (gr g w h) all codes (q : Int) (d : Int) = g4 (gr g w h) all' codes' ((q + 1 : Nat) : Int)
    rw [l7_eq k _ _ _ _ _ y5 _ _ _ hy, if_pos (dt (by omega)), inb_eq (by omega), inb_eq (by omega), inb_eq (by omega), eq, es]
    have hro := boRoll_is k r (L.getD q e0).s (chrD (d : Int)) hdir.1
    rw [hdir.2] at hro
    rw [hro, Option.bind_some]
    by_cases hf : flo g (rol (L.getD q e0).s (chrD (d : Int))) = true
    · rw [if_pos hf, if_neg (show ¬ ((!true) = true) by decide)]
      have hdk : dieOk (rol (L.getD q e0).s (chrD (d : Int))).2.2.1 = true := dieOk_rol _ _ hgq.2
      simp only
      rw [code_is k (by omega) r hf hdk, Option.bind_some, place_is k hk codes _ (by omega), Option.bind_some]
      by_cases hm : rol (L.getD q e0).s (chrD (d : Int)) ∈ L.map En.s
      · have hadd : addE g L q d = L := by unfold addE; rw [if_neg (fun z => z.2 hm)]
        have hge := fidx_ge (fun x => decide (x = codeP w (rol (L.getD q e0).s (chrD (d : Int))))) codes
        have hlt := fidx_lt (fun x => decide (x = codeP w (rol (L.getD q e0).s (chrD (d : Int))))) codes
        have hne : fidx (fun x => decide (x = codeP w (rol (L.getD q e0).s (chrD (d : Int))))) codes ≠ -1 := by
          intro z
          obtain ⟨e, he, hes⟩ := List.mem_map.1 hm
          have := (fidx_all _ _).1 z (codeP w e.s) (by rw [hR.c]; exact List.mem_map.2 ⟨e, he, rfl⟩)
          rw [hes] at this
          simp at this
        rw [if_neg (ndt (by omega))]
        obtain ⟨A, hA, eA⟩ := j17_is k (by omega) hR5 g4 (sp_wyAll_l7 k g4 n) (gr g w h) hq (show d < 4 by omega) (x := fidx (fun x => decide (x = codeP w (rol (L.getD q e0).s (chrD (d : Int))))) codes) (by omega)
        rw [hadd] at ih ⊢
        obtain ⟨A', C', hR', e'⟩ := ih A codes hA
        exact ⟨A', C', hR', (show _ = _ from eA).trans e'⟩
      · have hadd : addE g L q d = L ++ [⟨rol (L.getD q e0).s (chrD (d : Int)), (q : Int), (d : Int), (L.getD q e0).f + 1⟩] := by unfold addE; rw [if_pos ⟨hf, hm⟩]
        have hno : fidx (fun x => decide (x = codeP w (rol (L.getD q e0).s (chrD (d : Int))))) codes = -1 := by
          rw [fidx_all]
          intro x hx
          rw [hR.c] at hx
          obtain ⟨e, he, rfl⟩ := List.mem_map.1 hx
          refine decide_eq_false fun z => ?_
          have h1 := hI.gd e he
          exact hm (List.mem_map.2 ⟨e, he, code_inj r h1.1 h1.2 hf hdk z⟩)
        rw [hno, if_pos (by decide), inb_eq (by omega), if_pos (by simp; omega), Option.bind_some, if_pos (by simp; omega), ef, wr (by omega)]
        have hR6 : Rel w (L ++ [⟨rol (L.getD q e0).s (chrD (d : Int)), (q : Int), (d : Int), (L.getD q e0).f + 1⟩]) (y5 ++ [(rol (L.getD q e0).s (chrD (d : Int)), (L.getD q e0).f + 1, (0 : Int), (q : Int), (d : Int), List.replicate 4 (0 : Int), ())]) (codes ++ [codeP w (rol (L.getD q e0).s (chrD (d : Int)))]) :=
          ⟨by rw [List.map_append, List.map_append, hR5.a]; rfl, by rw [List.map_append, hR.c]; rfl⟩
        rw [hadd] at ih ⊢
        obtain ⟨A, hA, eA⟩ := j17_is k (by omega) hR6 g4 (sp_wyAll_l7 k g4 n) (gr g w h) (q := q) (d := d) (x := (y5.length : Int)) (by simp; omega) (by omega) (by simp; omega)
        obtain ⟨A', C', hR', e'⟩ := ih A _ hA
        exact ⟨A', C', hR', (show _ = _ from eA).trans e'⟩
    · rw [if_neg hf, if_pos (show ((!false) = true) by decide), wr (by omega)]
      have hadd : addE g L q d = L := by unfold addE; rw [if_neg (fun z => hf z.1)]
      rw [hadd] at ih ⊢
      obtain ⟨A', C', hR', e'⟩ := ih y5 codes hR5
      exact ⟨A', C', hR', e'⟩

/-! ### Both -/
theorem bfs (k : Nat) (hk : 1000000000 ≤ k) {g : List (List Int)} {w h : Nat} (r : Rc g w h) {s0 : tState.in} (mv : tState.in × (Int × Unit) → Option (tState.in × (Bool × Unit))) (hmv : ∀ s c, mv (s, c, ()) = some (rol s c, flo g (rol s c), ())) : ∀ (n q : Nat) (L : List En) (all : List twyNode.in) (codes : List Int), Inv g s0 L → q ≤ L.length → 49000000 < n + q → Rel w L all codes →
    ∃ L' all' codes', Inv g s0 L' ∧ Rel w L' all' codes' ∧ sp_wyAll_l4 k n (gr g w h) all codes (q : Int) = some all' ∧ im_reached_l3 k n mv (enc L) (q : Int) = some (some (enc L'))
  | 0, q, L, all, codes, hI, hq, hn, hR => by have := hI.bd r; omega
  | n + 1, q, L, all, codes, hI, hq, hn, hR => by
    have hl := hR.len
    have l1 : (enc L).1.length = L.length := List.length_map ..
    show ∃ L' all' codes', Inv g s0 L' ∧ Rel w L' all' codes' ∧ sp_wyAll_l4s k (fun g0 => sp_wyAll_l7 k g0 k) (sp_wyAll_l4 k n) (gr g w h) all codes (q : Int) = some all' ∧ im_reached_l3s k (fun g0 => im_reached_l6 k g0 k) (im_reached_l3 k n) mv (enc L) (q : Int) = some (some (enc L'))
    unfold sp_wyAll_l4s im_reached_l3s
    by_cases hlt : q < L.length
    · rw [if_pos (dt (by omega)), if_pos (dt (by rw [l1]; omega))]
      obtain ⟨A, C, hA, eA⟩ := wy_in k hk r (sp_wyAll_l4 k n) q 4 k 0 L all codes rfl (by omega) hI hlt hR
      have eB := re_in k r (s0 := s0) mv hmv (im_reached_l3 k n) q 4 k 0 L rfl (by omega) hI hlt
      obtain ⟨h1, h2⟩ := Inv.adds 4 0 L hI hlt rfl
      obtain ⟨L', A', C', b1, b2, b3, b4⟩ := bfs k hk r mv hmv n (q + 1) _ A C h1 (by omega) (by omega) hA
      exact ⟨L', A', C', b1, b2, (show _ = _ from eA).trans b3, (show _ = _ from eB).trans b4⟩
    · rw [if_neg (ndt (by omega)), if_neg (ndt (by rw [l1]; omega))]
      exact ⟨L, all, codes, hI, hR, rfl, rfl⟩
theorem reach_is (k : Nat) (hk : 1000000000 ≤ k) {g : List (List Int)} {w h : Nat} (r : Rc g w h) (s0 : tState.in) (hf : flo g s0 = true) (hd : dieOk s0.2.2.1 = true) (mv : tState.in × (Int × Unit) → Option (tState.in × (Bool × Unit))) (hmv : ∀ s c, mv (s, c, ()) = some (rol s c, flo g (rol s c), ())) :
    ∃ L all, Inv g s0 L ∧ all.map pj = L.map pe ∧ sp_wyAll k (gr g w h) s0 = some all ∧ im_reached k s0 mv = some (some (enc L)) := by
  have hI : Inv g s0 [⟨s0, -1, 0, 0⟩] := by
    refine ⟨by simp, fun e he => ?_, rfl, by simp, fun j hj hl => ?_, fun j hl => ?_⟩
    · rw [List.mem_singleton] at he; subst he; exact ⟨hf, hd⟩
    · rw [List.length_singleton] at hl; omega
    · rw [List.length_singleton] at hl
      obtain rfl : j = 0 := by omega
      exact ⟨Int.le_refl _, Int.le_refl _⟩
  obtain ⟨L, A, C, h1, h2, h3, h4⟩ := bfs k hk r (s0 := s0) mv hmv k 0 [⟨s0, -1, 0, 0⟩] [(s0, (0 : Int), (1 : Int), (-1 : Int), (0 : Int), (List.replicate 4 (0 : Int)), ())] [codeP w s0] hI (by simp) (by omega) ⟨rfl, rfl⟩
  refine ⟨L, A, h1, h2.a, ?_, h4⟩
  show (sp_wyCode k (gr g w h) s0).bind _ = _
  rw [code_is k (by omega) r hf hd]
  exact h3
end Ev
/- (loop.example/g01207/impl.State).isAt -/
namespace Ev
open Go Go.Proofs
/-! (impl.State).isAt -/
def im_State_isAt_s (_k : Nat) (x0 : tState.in) (x1 : Int) (x2 : Int) : Option Bool :=
  if (decide (x0.1 = x1)) = true then
    some (decide (x0.2.1 = x2))
  else
    some false
def im_State_isAt (k : Nat) (x0 : tState.in) (x1 : Int) (x2 : Int) : Option Bool := im_State_isAt_s k x0 x1 x2
noncomputable def im_State_isAt_O (k : Nat) : Orc := { ps := [.v tState, .v I, .v I], rt := (.v T.b), F := fun x => im_State_isAt k x.1 x.2.1 x.2.2.1 }
noncomputable def im_State_isAt_E (k : Nat) : Env := { ty := tabTy Tryd_tab, ds := tabDs Tryd_tab, rounds := k, nt := 17, orc := fun _ => none, lp := fun _ => none, ct := fun _ => none, plan := fun _ => none }
noncomputable def im_State_isAt_fin (k : Nat) : Kn Bool := finish (im_State_isAt_E k) [.v tState, .v I, .v I] (.v T.b) Tryd.f114.results.toList
theorem im_State_isAt_st (k : Nat) (x0 : tState.in) (x1 : Int) (x2 : Int) : evFun (im_State_isAt_E k) [.v tState, .v I, .v I] (.v T.b) Tryd.f114 (x0, x1, x2, ()) = im_State_isAt_s k x0 x1 x2 := by kernel_rfl
theorem im_State_isAt_ev (k : Nat) (x0 : tState.in) (x1 : Int) (x2 : Int) : evFun (im_State_isAt_E k) [.v tState, .v I, .v I] (.v T.b) Tryd.f114 (x0, x1, x2, ()) = im_State_isAt k x0 x1 x2 := by
  skip
  rw [im_State_isAt_st]; rfl
theorem im_State_isAt_c (k : Nat) : Contract Tryd.prog 114 (im_State_isAt_O k) :=
  fun_sound (c := bodyOf Tryd.f114) (tab_ok Tryd_tab_ok rfl rfl) orc_nil Tryd.func114 (by kernel_rfl) rfl (by kernel_rfl) (by decide) rfl rfl (by kernel_rfl) (by kernel_rfl) (by kernel_rfl) (fun x _ h => (im_State_isAt_ev k x.1 x.2.1 x.2.2.1).trans h)
end Ev
/- (loop.example/g01207/impl.Puzzle).isGoal -/
namespace Ev
open Go Go.Proofs
/-! (impl.Puzzle).isGoal -/
def im_Puzzle_isGoal_s (k : Nat) (x0 : tPuzzle.in) (x1 : tState.in) : Option Bool :=
  (im_State_isAt k x1 x0.2.2.1 x0.2.2.2.1).bind fun r1 =>
  if r1 = true then
    some (decide (x1.2.2.1.1 = x0.2.2.2.2.1))
  else
    some false
def im_Puzzle_isGoal (k : Nat) (x0 : tPuzzle.in) (x1 : tState.in) : Option Bool := im_Puzzle_isGoal_s k x0 x1
noncomputable def im_Puzzle_isGoal_O (k : Nat) : Orc := { ps := [.v tPuzzle, .v tState], rt := (.v T.b), F := fun x => im_Puzzle_isGoal k x.1 x.2.1 }
noncomputable def im_Puzzle_isGoal_E (k : Nat) : Env := { ty := tabTy Tryd_tab, ds := tabDs Tryd_tab, rounds := k, nt := 19, orc := fun g => if Nat.beq g 114 = true then some (im_State_isAt_O k) else (none), lp := fun _ => none, ct := fun _ => none, plan := fun _ => none }
noncomputable def im_Puzzle_isGoal_fin (k : Nat) : Kn Bool := finish (im_Puzzle_isGoal_E k) [.v tPuzzle, .v tState] (.v T.b) Tryd.f73.results.toList
theorem im_Puzzle_isGoal_st (k : Nat) (x0 : tPuzzle.in) (x1 : tState.in) : evFun (im_Puzzle_isGoal_E k) [.v tPuzzle, .v tState] (.v T.b) Tryd.f73 (x0, x1, ()) = im_Puzzle_isGoal_s k x0 x1 := by kernel_rfl
theorem im_Puzzle_isGoal_ev (k : Nat) (x0 : tPuzzle.in) (x1 : tState.in) : evFun (im_Puzzle_isGoal_E k) [.v tPuzzle, .v tState] (.v T.b) Tryd.f73 (x0, x1, ()) = im_Puzzle_isGoal k x0 x1 := by
  skip
  rw [im_Puzzle_isGoal_st]; rfl
theorem im_Puzzle_isGoal_c (k : Nat) : Contract Tryd.prog 73 (im_Puzzle_isGoal_O k) :=
  fun_sound (c := bodyOf Tryd.f73) (tab_ok Tryd_tab_ok rfl rfl) (orc_cons (im_State_isAt_c k) orc_nil) Tryd.func73 (by kernel_rfl) rfl (by kernel_rfl) (by decide) rfl rfl (by kernel_rfl) (by kernel_rfl) (by kernel_rfl) (fun x _ h => (im_Puzzle_isGoal_ev k x.1 x.2.1).trans h)
end Ev
/- loop.example/g01207/spec.puDone -/
namespace Ev
open Go Go.Proofs
/-! spec.puDone -/
def sp_puDone_s (_k : Nat) (x0 : tPuzzle.in) (x1 : tState.in) : Option Bool :=
  if (decide (x1.1 = x0.2.2.1)) = true then
    if (decide (x1.2.1 = x0.2.2.2.1)) = true then
      some (decide (x1.2.2.1.1 = x0.2.2.2.2.1))
    else
      some false
  else
    some false
def sp_puDone (k : Nat) (x0 : tPuzzle.in) (x1 : tState.in) : Option Bool := sp_puDone_s k x0 x1
noncomputable def sp_puDone_O (k : Nat) : Orc := { ps := [.v tPuzzle, .v tState], rt := (.v T.b), F := fun x => sp_puDone k x.1 x.2.1 }
noncomputable def sp_puDone_E (k : Nat) : Env := { ty := tabTy Tryd_tab, ds := tabDs Tryd_tab, rounds := k, nt := 25, orc := fun _ => none, lp := fun _ => none, ct := fun _ => none, plan := fun _ => none }
noncomputable def sp_puDone_fin (k : Nat) : Kn Bool := finish (sp_puDone_E k) [.v tPuzzle, .v tState] (.v T.b) Tryd.f71.results.toList
theorem sp_puDone_st (k : Nat) (x0 : tPuzzle.in) (x1 : tState.in) : evFun (sp_puDone_E k) [.v tPuzzle, .v tState] (.v T.b) Tryd.f71 (x0, x1, ()) = sp_puDone_s k x0 x1 := by kernel_rfl
theorem sp_puDone_ev (k : Nat) (x0 : tPuzzle.in) (x1 : tState.in) : evFun (sp_puDone_E k) [.v tPuzzle, .v tState] (.v T.b) Tryd.f71 (x0, x1, ()) = sp_puDone k x0 x1 := by
  skip
  rw [sp_puDone_st]; rfl
theorem sp_puDone_c (k : Nat) : Contract Tryd.prog 71 (sp_puDone_O k) :=
  fun_sound (c := bodyOf Tryd.f71) (tab_ok Tryd_tab_ok rfl rfl) orc_nil Tryd.func71 (by kernel_rfl) rfl (by kernel_rfl) (by decide) rfl rfl (by kernel_rfl) (by kernel_rfl) (by kernel_rfl) (fun x _ h => (sp_puDone_ev k x.1 x.2.1).trans h)
end Ev
/- slices.IndexFunc[[]loop.example/g01207/impl.State,loop.example/g01207/impl.State] -/
namespace Ev
open Go Go.Proofs
/-! slices.IndexFunc[[]impl.State,impl.State] -/
@[reducible] def slices_IndexFunc_impl_State_impl_State_l2_L : List (Nat × Sh) := [(0, (.v (.sl tState))), (1, (.v (.fn (.pr tState T.un) T.b))), (7, (.v I)), (8, (.v I))]
def slices_IndexFunc_impl_State_impl_State_l2s (_k : Nat) (g_l2 : (List tState.in) → ((tState.in × Unit) → Option Bool) → Int → Int → Option Int) (x0 : (List tState.in)) (x1 : ((tState.in × Unit) → Option Bool)) (x7 : Int) (x8 : Int) : Option Int :=
  if (decide (x8 < x7)) = true then
    inb x8 x0.length (
      (x1 ((rdT tState x0 x8), ())).bind fun r1 =>
      if r1 = true then
        some x8
      else
        g_l2 x0 x1 x7 (IntKind.i64.wrap (x8 + (1 : Int))))
  else
    some (-1 : Int)
def slices_IndexFunc_impl_State_impl_State_l2 (k : Nat)  : Nat → (List tState.in) → ((tState.in × Unit) → Option Bool) → Int → Int → Option Int
  | 0, _, _, _, _ => none
  | n + 1, x0, x1, x7, x8 => slices_IndexFunc_impl_State_impl_State_l2s k (slices_IndexFunc_impl_State_impl_State_l2 k n) x0 x1 x7 x8
def slices_IndexFunc_impl_State_impl_State_s (_k : Nat) (c_l2 : (List tState.in) → ((tState.in × Unit) → Option Bool) → Int → Int → Option Int) (x0 : (List tState.in)) (x1 : ((tState.in × Unit) → Option Bool)) : Option Int :=
  c_l2 x0 x1 (x0.length : Int) (0 : Int)
def slices_IndexFunc_impl_State_impl_State (k : Nat) (x0 : (List tState.in)) (x1 : ((tState.in × Unit) → Option Bool)) : Option Int := slices_IndexFunc_impl_State_impl_State_s k (slices_IndexFunc_impl_State_impl_State_l2 k k) x0 x1
noncomputable def slices_IndexFunc_impl_State_impl_State_O (k : Nat) : Orc := { ps := [.v (.sl tState), .v (.fn (.pr tState T.un) T.b)], rt := (.v I), F := fun x => slices_IndexFunc_impl_State_impl_State k x.1 x.2.1 }
noncomputable def slices_IndexFunc_impl_State_impl_State_E (k : Nat) : Env := { ty := tabTy Tryd_tab, ds := tabDs Tryd_tab, rounds := k, nt := 19, orc := fun _ => none, lp := fun i => if Nat.beq i 2 = true then some slices_IndexFunc_impl_State_impl_State_l2_L else (none), ct := fun _ => none, plan := fun _ => none }
noncomputable def slices_IndexFunc_impl_State_impl_State_fin (k : Nat) : Kn Int := finish (slices_IndexFunc_impl_State_impl_State_E k) [.v (.sl tState), .v (.fn (.pr tState T.un) T.b)] (.v I) Tryd.f166.results.toList
noncomputable def slices_IndexFunc_impl_State_impl_State_l2_e (k : Nat)  (n : Nat) (x0 : (List tState.in)) (x1 : ((tState.in × Unit) → Option Bool)) (x7 : Int) (x8 : Int) : Option Int := loopF (slices_IndexFunc_impl_State_impl_State_E k) slices_IndexFunc_impl_State_impl_State_l2_L (ev (slices_IndexFunc_impl_State_impl_State_E k) (sub (bodyOf Tryd.f166) [.r, .l, .r, .c, .c])) (kont (slices_IndexFunc_impl_State_impl_State_E k) (bodyOf Tryd.f166) [.r, .l, .r, .c] [] (slices_IndexFunc_impl_State_impl_State_fin k)) n (x0, x1, x7, x8, ())
theorem slices_IndexFunc_impl_State_impl_State_l2_z (k : Nat)  (x0 : (List tState.in)) (x1 : ((tState.in × Unit) → Option Bool)) (x7 : Int) (x8 : Int) : slices_IndexFunc_impl_State_impl_State_l2_e k 0 x0 x1 x7 x8 = none := by kernel_rfl
theorem slices_IndexFunc_impl_State_impl_State_l2_st (k : Nat)  (n : Nat) (x0 : (List tState.in)) (x1 : ((tState.in × Unit) → Option Bool)) (x7 : Int) (x8 : Int) : slices_IndexFunc_impl_State_impl_State_l2_e k (n + 1) x0 x1 x7 x8 = slices_IndexFunc_impl_State_impl_State_l2s k (slices_IndexFunc_impl_State_impl_State_l2_e k n) x0 x1 x7 x8 := by kernel_rfl
theorem slices_IndexFunc_impl_State_impl_State_l2_ev (k : Nat)  : ∀ (n : Nat) (x0 : (List tState.in)) (x1 : ((tState.in × Unit) → Option Bool)) (x7 : Int) (x8 : Int), slices_IndexFunc_impl_State_impl_State_l2_e k n x0 x1 x7 x8 = slices_IndexFunc_impl_State_impl_State_l2 k n x0 x1 x7 x8
  | 0, x0, x1, x7, x8 => slices_IndexFunc_impl_State_impl_State_l2_z k x0 x1 x7 x8
  | n + 1, x0, x1, x7, x8 => by
    have ih : (slices_IndexFunc_impl_State_impl_State_l2_e k n) = slices_IndexFunc_impl_State_impl_State_l2 k n := by funext y0 y1 y2 y3; exact slices_IndexFunc_impl_State_impl_State_l2_ev k n y0 y1 y2 y3
    rw [slices_IndexFunc_impl_State_impl_State_l2_st, ih]; rfl
theorem slices_IndexFunc_impl_State_impl_State_st (k : Nat) (x0 : (List tState.in)) (x1 : ((tState.in × Unit) → Option Bool)) : evFun (slices_IndexFunc_impl_State_impl_State_E k) [.v (.sl tState), .v (.fn (.pr tState T.un) T.b)] (.v I) Tryd.f166 (x0, x1, ()) = slices_IndexFunc_impl_State_impl_State_s k (slices_IndexFunc_impl_State_impl_State_l2_e k k) x0 x1 := by kernel_rfl
theorem slices_IndexFunc_impl_State_impl_State_ev (k : Nat) (x0 : (List tState.in)) (x1 : ((tState.in × Unit) → Option Bool)) : evFun (slices_IndexFunc_impl_State_impl_State_E k) [.v (.sl tState), .v (.fn (.pr tState T.un) T.b)] (.v I) Tryd.f166 (x0, x1, ()) = slices_IndexFunc_impl_State_impl_State k x0 x1 := by
  have h0 : (slices_IndexFunc_impl_State_impl_State_l2_e k k) = (slices_IndexFunc_impl_State_impl_State_l2 k k) := by funext y0 y1 y2 y3; exact slices_IndexFunc_impl_State_impl_State_l2_ev k k y0 y1 y2 y3
  rw [slices_IndexFunc_impl_State_impl_State_st, h0]; rfl
theorem slices_IndexFunc_impl_State_impl_State_c (k : Nat) : Contract Tryd.prog 166 (slices_IndexFunc_impl_State_impl_State_O k) :=
  fun_sound (c := bodyOf Tryd.f166) (tab_ok Tryd_tab_ok rfl rfl) orc_nil Tryd.func166 (by kernel_rfl) rfl (by kernel_rfl) (by decide) rfl rfl (by kernel_rfl) (by kernel_rfl) (by kernel_rfl) (fun x _ h => (slices_IndexFunc_impl_State_impl_State_ev k x.1 x.2.1).trans h)
end Ev
/- Plain laws: goals. -/
namespace Ev
open Go Go.Proofs
/-- What is asked of a puzzle and a word: both sides see the same states. -/
theorem solve_is (k : Nat) (hk : 2097152 ≤ k) (p : tPuzzle.in) (hs : List.length p.1 ≤ 1048576) (s : List Int) :
    (∃ g w h, Rc g w h ∧ puOk g p = true ∧ wordOk s = true ∧ (alo g p.2.1 s).length = s.length + 1 ∧ im_IsPuzzle k p = some true ∧ sp_puGood k p = some true ∧ im_statesAlong k p.1 p.2.1 s = some (alo g p.2.1 s, true, ()) ∧ sp_boWay k p.1 p.2.1 s = some (alo g p.2.1 s, true, ())) ∨
    (im_IsPuzzle k p = some false ∧ sp_puGood k p = some false ∧ ∃ l b, im_statesAlong k p.1 p.2.1 s = some (l, b, ())) ∨
    (im_IsPuzzle k p = some true ∧ sp_puGood k p = some true ∧ ∃ l, im_statesAlong k p.1 p.2.1 s = some (l, false, ()) ∧ sp_boWay k p.1 p.2.1 s = some ([], false, ())) := by
  rcases puz_is k hk p hs with ⟨w, h, b, -, -, h1, h2, h3, h4⟩ | ⟨g, -, h1, h2, h3, h4⟩
  · have hw := way_is k hk p.1 p.2.1 s (spl p.1) [] w h (stOk (spl p.1) p.2.1) (fun _ => b.rc)
    cases hp : puOk (spl p.1) p with
    | true =>
      have ho : stOk (spl p.1) p.2.1 = true := by
        unfold puOk at hp
        rw [Bool.and_eq_true] at hp; exact hp.1
      rw [ho] at hw
      rw [hp] at h3 h4
      rcases hw (by rw [h1, ho]; rfl) (by rw [h2, ho]; rfl) with ⟨-, a2, a3, a4, a5⟩ | ⟨-, l, a4, a5⟩
      · exact .inl ⟨spl p.1, w, h, b.rc, hp, a2, a3, h3, h4, a4, a5⟩
      · exact .inr (.inr ⟨h3, h4, l, a4, a5⟩)
    | false =>
      rw [hp] at h3 h4
      refine .inr (.inl ⟨h3, h4, ?_⟩)
      cases ho : stOk (spl p.1) p.2.1 with
      | true =>
        rw [ho] at hw
        rcases hw (by rw [h1, ho]; rfl) (by rw [h2, ho]; rfl) with ⟨-, a2, a3, a4, a5⟩ | ⟨-, l, a4, a5⟩
        · exact ⟨_, _, a4⟩
        · exact ⟨_, _, a4⟩
      | false =>
        refine ⟨[], false, ?_⟩
        show (im_onBoard k p.1 p.2.1).bind _ = _
        rw [h1, ho]; rfl
  · refine .inr (.inl ⟨h3, h4, [], false, ?_⟩)
    show (im_onBoard k p.1 p.2.1).bind _ = _
    rw [h1]; rfl
def goal (p : tPuzzle.in) (s : tState.in) : Bool := decide (s.1 = p.2.2.1 ∧ s.2.1 = p.2.2.2.1 ∧ s.2.2.1.1 = p.2.2.2.2.1)
theorem isGoal_is (k : Nat) (p : tPuzzle.in) (s : tState.in) : im_Puzzle_isGoal k p s = some (goal p s) := by
  show (Option.bind (if decide (s.1 = p.2.2.1) = true then some (decide (s.2.1 = p.2.2.2.1)) else some false) _) = _
  unfold goal
  by_cases h1 : s.1 = p.2.2.1
  · by_cases h2 : s.2.1 = p.2.2.2.1
    · simp [h1, h2]
    · simp [h1, h2]
  · simp [h1]
theorem puDone_is (k : Nat) (p : tPuzzle.in) (s : tState.in) : sp_puDone k p s = some (goal p s) := by
  show (if decide (s.1 = p.2.2.1) = true then if decide (s.2.1 = p.2.2.2.1) = true then some (decide (s.2.2.1.1 = p.2.2.2.2.1)) else some false else some false) = _
  unfold goal
  by_cases h1 : s.1 = p.2.2.1
  · by_cases h2 : s.2.1 = p.2.2.2.1
    · simp [h1, h2]
    · simp [h1, h2]
  · simp [h1]
theorem idxSt_loop (k : Nat) (p : tState.in → Bool) (f : tState.in × Unit → Option Bool) (hf : ∀ x, f (x, ()) = some (p x)) (l : List tState.in) (hl : l.length ≤ 1000000000) : ∀ (d n j : Nat), l.length = j + d → d < n →
    slices_IndexFunc_impl_State_impl_State_l2 k n l f (l.length : Int) (j : Int) = some (if fidx p (l.drop j) = -1 then -1 else (j : Int) + fidx p (l.drop j))
  | 0, n + 1, j, h, _ => by
    show slices_IndexFunc_impl_State_impl_State_l2s k _ _ _ _ _ = _
    unfold slices_IndexFunc_impl_State_impl_State_l2s
    rw [if_neg (ndt (by omega)), List.drop_of_length_le (by omega)]; rfl
  | d + 1, n + 1, j, h, hn => by
    show slices_IndexFunc_impl_State_impl_State_l2s k _ _ _ _ _ = _
    unfold slices_IndexFunc_impl_State_impl_State_l2s
    have hd := getD_drop l j sz0 (by omega)
    have e1 : rdT tState l (j : Int) = l.getD j sz0 := rfl
    have ih := idxSt_loop k p f hf l hl d n (j + 1) (by omega) (by omega)
    have hg := fidx_ge p (l.drop (j + 1))
    rw [if_pos (dt (by omega)), inb_eq (by omega), e1, hf, Option.bind_some, hd]
    unfold fidx
    by_cases hp : p (l.getD j sz0) = true
    · rw [if_pos hp, if_pos hp, if_neg (by omega)]; simp
    · rw [if_neg hp, if_neg hp, wr (by omega)]
      refine (show _ = _ from ih).trans ?_
      by_cases h2 : fidx p (l.drop (j + 1)) = -1
      · rw [if_pos h2, if_pos h2, if_pos rfl]
      · rw [if_neg h2, if_neg h2, if_neg (by omega)]; congr 1; omega
end Ev
/- loop.example/g01207/spec.puStates -/
namespace Ev
open Go Go.Proofs
/-! spec.puStates -/
@[reducible] def sp_puStates_l6_L : List (Nat × Sh) := [(1, (.bx 33 (.v tPuzzle))), (7, (.o 102 twyNode)), (23, (.al 7)), (24, (.v I)), (25, (.v I))]
def sp_puStates_l6s (k : Nat) (g_l6 : tPuzzle.in → (List twyNode.in) → Unit → Int → Int → Option ((List twyNode.in) × (Int × (Bool × Unit)))) (x1 : tPuzzle.in) (x7 : (List twyNode.in)) (_x23 : Unit) (x24 : Int) (x25 : Int) : Option ((List twyNode.in) × (Int × (Bool × Unit))) :=
  if (decide (x25 < x24)) = true then
    inb x25 x7.length (
      (sp_puDone k x1 (x7.getD (x25).toNat (((0 : Int), (0 : Int), ((0 : Int), (0 : Int), (0 : Int), (0 : Int), (0 : Int), (0 : Int), ()), ()), (0 : Int), (0 : Int), (0 : Int), (0 : Int), (List.replicate 4 (0 : Int)), ())).1).bind fun r4 =>
      if r4 = true then
        some (x7, (x7.getD (x25).toNat (((0 : Int), (0 : Int), ((0 : Int), (0 : Int), (0 : Int), (0 : Int), (0 : Int), (0 : Int), ()), ()), (0 : Int), (0 : Int), (0 : Int), (0 : Int), (List.replicate 4 (0 : Int)), ())).2.1, (decide ((x7.getD (x25).toNat (((0 : Int), (0 : Int), ((0 : Int), (0 : Int), (0 : Int), (0 : Int), (0 : Int), (0 : Int), ()), ()), (0 : Int), (0 : Int), (0 : Int), (0 : Int), (List.replicate 4 (0 : Int)), ())).2.1 ≤ (60 : Int))), ())
      else
        g_l6 x1 x7 () x24 (IntKind.i64.wrap (x25 + (1 : Int))))
  else
    some (([] : List twyNode.in), (0 : Int), false, ())
def sp_puStates_l6 (k : Nat)  : Nat → tPuzzle.in → (List twyNode.in) → Unit → Int → Int → Option ((List twyNode.in) × (Int × (Bool × Unit)))
  | 0, _, _, _, _, _ => none
  | n + 1, x1, x7, x23, x24, x25 => sp_puStates_l6s k (sp_puStates_l6 k n) x1 x7 x23 x24 x25
def sp_puStates_s (k : Nat) (c_l6 : tPuzzle.in → (List twyNode.in) → Unit → Int → Int → Option ((List twyNode.in) × (Int × (Bool × Unit)))) (x0 : tPuzzle.in) : Option ((List twyNode.in) × (Int × (Bool × Unit))) :=
  (sp_puGood k x0).bind fun r1 =>
  if (!r1) = true then
    some (([] : List twyNode.in), (0 : Int), false, ())
  else
    (sp_boRead k x0.1).bind fun r2 =>
    (sp_wyAll k r2.1 x0.2.1).bind fun r3 =>
    c_l6 x0 r3 () (r3.length : Int) (0 : Int)
def sp_puStates (k : Nat) (x0 : tPuzzle.in) : Option ((List twyNode.in) × (Int × (Bool × Unit))) := sp_puStates_s k (sp_puStates_l6 k k) x0
noncomputable def sp_puStates_O (k : Nat) : Orc := { ps := [.v tPuzzle], rt := (.pr (.o 102 twyNode) (.pr (.v I) (.pr (.v T.b) .un))), F := fun x => sp_puStates k x.1 }
noncomputable def sp_puStates_E (k : Nat) : Env := { ty := tabTy Tryd_tab, ds := tabDs Tryd_tab, rounds := k, nt := 40, orc := fun g => if Nat.beq g 43 = true then some (sp_puGood_O k) else (if Nat.beq g 44 = true then some (sp_boRead_O k) else (if Nat.beq g 71 = true then some (sp_puDone_O k) else (if Nat.beq g 106 = true then some (sp_wyAll_O k) else (none)))), lp := fun i => if Nat.beq i 6 = true then some sp_puStates_l6_L else (none), ct := fun _ => none, plan := fun i => if Nat.beq i 9 = true then some [(0, []), (1, []), (2, []), (3, []), (4, []), (5, []), (6, []), (7, []), (8, [])] else (none) }
noncomputable def sp_puStates_fin (k : Nat) : Kn ((List twyNode.in) × (Int × (Bool × Unit))) := finish (sp_puStates_E k) [.v tPuzzle] (.pr (.o 102 twyNode) (.pr (.v I) (.pr (.v T.b) .un))) Tryd.f68.results.toList
noncomputable def sp_puStates_l6_e (k : Nat)  (n : Nat) (x1 : tPuzzle.in) (x7 : (List twyNode.in)) (x23 : Unit) (x24 : Int) (x25 : Int) : Option ((List twyNode.in) × (Int × (Bool × Unit))) := loopF (sp_puStates_E k) sp_puStates_l6_L (ev (sp_puStates_E k) (sub (bodyOf Tryd.f68) [.r, .r, .r, .r, .l, .r, .c, .c])) (kont (sp_puStates_E k) (bodyOf Tryd.f68) [.r, .r, .r, .r, .l, .r, .c] [] (sp_puStates_fin k)) n (x1, x7, x23, x24, x25, ())
theorem sp_puStates_l6_z (k : Nat)  (x1 : tPuzzle.in) (x7 : (List twyNode.in)) (x23 : Unit) (x24 : Int) (x25 : Int) : sp_puStates_l6_e k 0 x1 x7 x23 x24 x25 = none := by kernel_rfl
theorem sp_puStates_l6_st (k : Nat)  (n : Nat) (x1 : tPuzzle.in) (x7 : (List twyNode.in)) (x23 : Unit) (x24 : Int) (x25 : Int) : sp_puStates_l6_e k (n + 1) x1 x7 x23 x24 x25 = sp_puStates_l6s k (sp_puStates_l6_e k n) x1 x7 x23 x24 x25 := by kernel_rfl
theorem sp_puStates_l6_ev (k : Nat)  : ∀ (n : Nat) (x1 : tPuzzle.in) (x7 : (List twyNode.in)) (x23 : Unit) (x24 : Int) (x25 : Int), sp_puStates_l6_e k n x1 x7 x23 x24 x25 = sp_puStates_l6 k n x1 x7 x23 x24 x25
  | 0, x1, x7, x23, x24, x25 => sp_puStates_l6_z k x1 x7 x23 x24 x25
  | n + 1, x1, x7, x23, x24, x25 => by
    have ih : (sp_puStates_l6_e k n) = sp_puStates_l6 k n := by funext y0 y1 y2 y3 y4; exact sp_puStates_l6_ev k n y0 y1 y2 y3 y4
    rw [sp_puStates_l6_st, ih]; rfl
theorem sp_puStates_st (k : Nat) (x0 : tPuzzle.in) : evFun (sp_puStates_E k) [.v tPuzzle] (.pr (.o 102 twyNode) (.pr (.v I) (.pr (.v T.b) .un))) Tryd.f68 (x0, ()) = sp_puStates_s k (sp_puStates_l6_e k k) x0 := by kernel_rfl
theorem sp_puStates_ev (k : Nat) (x0 : tPuzzle.in) : evFun (sp_puStates_E k) [.v tPuzzle] (.pr (.o 102 twyNode) (.pr (.v I) (.pr (.v T.b) .un))) Tryd.f68 (x0, ()) = sp_puStates k x0 := by
  have h0 : (sp_puStates_l6_e k k) = (sp_puStates_l6 k k) := by funext y0 y1 y2 y3 y4; exact sp_puStates_l6_ev k k y0 y1 y2 y3 y4
  rw [sp_puStates_st, h0]; rfl
theorem sp_puStates_c (k : Nat) : Contract Tryd.prog 68 (sp_puStates_O k) :=
  fun_sound (c := bodyOf Tryd.f68) (tab_ok Tryd_tab_ok rfl rfl) (orc_cons (sp_puGood_c k) (orc_cons (sp_boRead_c k) (orc_cons (sp_puDone_c k) (orc_cons (sp_wyAll_c k) orc_nil)))) Tryd.func68 (by kernel_rfl) rfl (by kernel_rfl) (by decide) rfl rfl (by kernel_rfl) (by kernel_rfl) (by kernel_rfl) (fun x _ h => (sp_puStates_ev k x.1).trans h)
end Ev
/- loop.example/g01207/impl.reachOn -/
namespace Ev
open Go Go.Proofs
/-! impl.reachOn -/
def im_reachOn_s (k : Nat) (x0 : (List Int)) (x1 : tState.in) : Option ((Option treach.in) × (Bool × Unit)) :=
  (im_onBoard k x0 x1).bind fun r1 =>
  if (!r1.2.1) = true then
    some ((none : (Option treach.in)), false, ())
  else
    (im_reached k x1 (fun (a2 : (tState.in × (Int × Unit))) => (im_grid_roll k r1.1 a2.1 a2.2.1).bind fun r3 => some (r3.1, r3.2.1, ()))).bind fun r4 =>
    some (r4, true, ())
def im_reachOn (k : Nat) (x0 : (List Int)) (x1 : tState.in) : Option ((Option treach.in) × (Bool × Unit)) := im_reachOn_s k x0 x1
noncomputable def im_reachOn_O (k : Nat) : Orc := { ps := [.v T.s, .v tState], rt := (.pr (.v (.pt treach)) (.pr (.v T.b) .un)), F := fun x => im_reachOn k x.1 x.2.1 }
noncomputable def im_reachOn_E (k : Nat) : Env := { ty := tabTy Tryd_tab, ds := tabDs Tryd_tab, rounds := k, nt := 20, orc := fun g => if Nat.beq g 90 = true then some (im_onBoard_O k) else (if Nat.beq g 113 = true then some (im_grid_roll_O k) else (if Nat.beq g 131 = true then some (im_reached_O k) else (none))), lp := fun _ => none, ct := fun _ => none, plan := fun _ => none }
noncomputable def im_reachOn_fin (k : Nat) : Kn ((Option treach.in) × (Bool × Unit)) := finish (im_reachOn_E k) [.v T.s, .v tState] (.pr (.v (.pt treach)) (.pr (.v T.b) .un)) Tryd.f109.results.toList
theorem im_reachOn_st (k : Nat) (x0 : (List Int)) (x1 : tState.in) : evFun (im_reachOn_E k) [.v T.s, .v tState] (.pr (.v (.pt treach)) (.pr (.v T.b) .un)) Tryd.f109 (x0, x1, ()) = im_reachOn_s k x0 x1 := by kernel_rfl
theorem im_reachOn_ev (k : Nat) (x0 : (List Int)) (x1 : tState.in) : evFun (im_reachOn_E k) [.v T.s, .v tState] (.pr (.v (.pt treach)) (.pr (.v T.b) .un)) Tryd.f109 (x0, x1, ()) = im_reachOn k x0 x1 := by
  skip
  rw [im_reachOn_st]; rfl
theorem im_reachOn_c (k : Nat) : Contract Tryd.prog 109 (im_reachOn_O k) :=
  fun_sound (c := bodyOf Tryd.f109) (tab_ok Tryd_tab_ok rfl rfl) (orc_cons (im_onBoard_c k) (orc_cons (im_grid_roll_c k) (orc_cons (im_reached_c k) orc_nil))) Tryd.func109 (by kernel_rfl) rfl (by kernel_rfl) (by decide) rfl rfl (by kernel_rfl) (by kernel_rfl) (by kernel_rfl) (fun x _ h => (im_reachOn_ev k x.1 x.2.1).trans h)
end Ev
/- loop.example/g01207/impl.reachCell -/
namespace Ev
open Go Go.Proofs
/-! impl.reachCell -/
def im_reachCell_s (k : Nat) (x0 : (List Int)) (x1 : tState.in) (x2 : Int) (x3 : Int) : Option ((Option treach.in) × (Bool × Unit)) :=
  (im_reachOn k x0 x1).bind fun r1 =>
  (im_board k x0).bind fun r2 =>
  if (!r1.2.1) = true then
    some ((none : (Option treach.in)), false, ())
  else
    (im_grid_has k r2.1 x2 x3).bind fun r3 =>
    if (!r3) = true then
      some ((none : (Option treach.in)), false, ())
    else
      some (r1.1, true, ())
def im_reachCell (k : Nat) (x0 : (List Int)) (x1 : tState.in) (x2 : Int) (x3 : Int) : Option ((Option treach.in) × (Bool × Unit)) := im_reachCell_s k x0 x1 x2 x3
noncomputable def im_reachCell_O (k : Nat) : Orc := { ps := [.v T.s, .v tState, .v I, .v I], rt := (.pr (.v (.pt treach)) (.pr (.v T.b) .un)), F := fun x => im_reachCell k x.1 x.2.1 x.2.2.1 x.2.2.2.1 }
noncomputable def im_reachCell_E (k : Nat) : Env := { ty := tabTy Tryd_tab, ds := tabDs Tryd_tab, rounds := k, nt := 35, orc := fun g => if Nat.beq g 49 = true then some (im_board_O k) else (if Nat.beq g 109 = true then some (im_reachOn_O k) else (if Nat.beq g 112 = true then some (im_grid_has_O k) else (none))), lp := fun _ => none, ct := fun _ => none, plan := fun _ => none }
noncomputable def im_reachCell_fin (k : Nat) : Kn ((Option treach.in) × (Bool × Unit)) := finish (im_reachCell_E k) [.v T.s, .v tState, .v I, .v I] (.pr (.v (.pt treach)) (.pr (.v T.b) .un)) Tryd.f150.results.toList
theorem im_reachCell_st (k : Nat) (x0 : (List Int)) (x1 : tState.in) (x2 : Int) (x3 : Int) : evFun (im_reachCell_E k) [.v T.s, .v tState, .v I, .v I] (.pr (.v (.pt treach)) (.pr (.v T.b) .un)) Tryd.f150 (x0, x1, x2, x3, ()) = im_reachCell_s k x0 x1 x2 x3 := by kernel_rfl
theorem im_reachCell_ev (k : Nat) (x0 : (List Int)) (x1 : tState.in) (x2 : Int) (x3 : Int) : evFun (im_reachCell_E k) [.v T.s, .v tState, .v I, .v I] (.pr (.v (.pt treach)) (.pr (.v T.b) .un)) Tryd.f150 (x0, x1, x2, x3, ()) = im_reachCell k x0 x1 x2 x3 := by
  skip
  rw [im_reachCell_st]; rfl
theorem im_reachCell_c (k : Nat) : Contract Tryd.prog 150 (im_reachCell_O k) :=
  fun_sound (c := bodyOf Tryd.f150) (tab_ok Tryd_tab_ok rfl rfl) (orc_cons (im_board_c k) (orc_cons (im_reachOn_c k) (orc_cons (im_grid_has_c k) orc_nil))) Tryd.func150 (by kernel_rfl) rfl (by kernel_rfl) (by decide) rfl rfl (by kernel_rfl) (by kernel_rfl) (by kernel_rfl) (fun x _ h => (im_reachCell_ev k x.1 x.2.1 x.2.2.1 x.2.2.2.1).trans h)
end Ev
/- slices.Reverse[[]byte,byte] -/
namespace Ev
open Go Go.Proofs
/-! slices.Reverse[[]byte,byte] -/
@[reducible] def slices_Reverse_byte_byte_l1_L : List (Nat × Sh) := [(0, (.o 5 (.i .u8))), (2, (.v I)), (3, (.v I))]
def slices_Reverse_byte_byte_l1s (_k : Nat) (g_l1 : (List Int) → Int → Int → Option (Unit × (List Int))) (x0 : (List Int)) (x2 : Int) (x3 : Int) : Option (Unit × (List Int)) :=
  if (decide (x2 < x3)) = true then
    inb x3 x0.length (
      inb x2 x0.length (
        inb x2 x0.length (
          inb x3 (x0.set (x2).toNat (x0.getD (x3).toNat (0 : Int))).length (
            g_l1 ((x0.set (x2).toNat (x0.getD (x3).toNat (0 : Int))).set (x3).toNat (x0.getD (x2).toNat (0 : Int))) (IntKind.i64.wrap (x2 + (1 : Int))) (IntKind.i64.wrap (x3 - (1 : Int)))))))
  else
    some ((), x0)
def slices_Reverse_byte_byte_l1 (k : Nat)  : Nat → (List Int) → Int → Int → Option (Unit × (List Int))
  | 0, _, _, _ => none
  | n + 1, x0, x2, x3 => slices_Reverse_byte_byte_l1s k (slices_Reverse_byte_byte_l1 k n) x0 x2 x3
def slices_Reverse_byte_byte_s (_k : Nat) (c_l1 : (List Int) → Int → Int → Option (Unit × (List Int))) (x0 : (List Int)) : Option (Unit × (List Int)) :=
  c_l1 x0 (0 : Int) (IntKind.i64.wrap ((x0.length : Int) - (1 : Int)))
def slices_Reverse_byte_byte (k : Nat) (x0 : (List Int)) : Option (Unit × (List Int)) := slices_Reverse_byte_byte_s k (slices_Reverse_byte_byte_l1 k k) x0
noncomputable def slices_Reverse_byte_byte_O (k : Nat) : Orc := { ps := [.io 5 (.i .u8)], rt := .un, F := fun x => slices_Reverse_byte_byte k x.1 }
noncomputable def slices_Reverse_byte_byte_E (k : Nat) : Env := { ty := tabTy Tryd_tab, ds := tabDs Tryd_tab, rounds := k, nt := 28, orc := fun _ => none, lp := fun i => if Nat.beq i 1 = true then some slices_Reverse_byte_byte_l1_L else (none), ct := fun _ => none, plan := fun i => if Nat.beq i 3 = true then some [(0, []), (1, []), (2, []), (3, []), (4, []), (5, []), (6, []), (7, []), (8, []), (9, []), (10, []), (11, []), (12, []), (13, []), (14, []), (15, [])] else (none) }
noncomputable def slices_Reverse_byte_byte_fin (k : Nat) : Kn (Unit × (List Int)) := finish (slices_Reverse_byte_byte_E k) [.io 5 (.i .u8)] .un Tryd.f179.results.toList
noncomputable def slices_Reverse_byte_byte_l1_e (k : Nat)  (n : Nat) (x0 : (List Int)) (x2 : Int) (x3 : Int) : Option (Unit × (List Int)) := loopF (slices_Reverse_byte_byte_E k) slices_Reverse_byte_byte_l1_L (ev (slices_Reverse_byte_byte_E k) (sub (bodyOf Tryd.f179) [.r, .c, .c])) (kont (slices_Reverse_byte_byte_E k) (bodyOf Tryd.f179) [.r, .c] [] (slices_Reverse_byte_byte_fin k)) n (x0, x2, x3, ())
theorem slices_Reverse_byte_byte_l1_z (k : Nat)  (x0 : (List Int)) (x2 : Int) (x3 : Int) : slices_Reverse_byte_byte_l1_e k 0 x0 x2 x3 = none := by kernel_rfl
theorem slices_Reverse_byte_byte_l1_st (k : Nat)  (n : Nat) (x0 : (List Int)) (x2 : Int) (x3 : Int) : slices_Reverse_byte_byte_l1_e k (n + 1) x0 x2 x3 = slices_Reverse_byte_byte_l1s k (slices_Reverse_byte_byte_l1_e k n) x0 x2 x3 := by kernel_rfl
theorem slices_Reverse_byte_byte_l1_ev (k : Nat)  : ∀ (n : Nat) (x0 : (List Int)) (x2 : Int) (x3 : Int), slices_Reverse_byte_byte_l1_e k n x0 x2 x3 = slices_Reverse_byte_byte_l1 k n x0 x2 x3
  | 0, x0, x2, x3 => slices_Reverse_byte_byte_l1_z k x0 x2 x3
  | n + 1, x0, x2, x3 => by
    have ih : (slices_Reverse_byte_byte_l1_e k n) = slices_Reverse_byte_byte_l1 k n := by funext y0 y1 y2; exact slices_Reverse_byte_byte_l1_ev k n y0 y1 y2
    rw [slices_Reverse_byte_byte_l1_st, ih]; rfl
theorem slices_Reverse_byte_byte_st (k : Nat) (x0 : (List Int)) : evFun (slices_Reverse_byte_byte_E k) [.io 5 (.i .u8)] .un Tryd.f179 (x0, ()) = slices_Reverse_byte_byte_s k (slices_Reverse_byte_byte_l1_e k k) x0 := by kernel_rfl
theorem slices_Reverse_byte_byte_ev (k : Nat) (x0 : (List Int)) : evFun (slices_Reverse_byte_byte_E k) [.io 5 (.i .u8)] .un Tryd.f179 (x0, ()) = slices_Reverse_byte_byte k x0 := by
  have h0 : (slices_Reverse_byte_byte_l1_e k k) = (slices_Reverse_byte_byte_l1 k k) := by funext y0 y1 y2; exact slices_Reverse_byte_byte_l1_ev k k y0 y1 y2
  rw [slices_Reverse_byte_byte_st, h0]; rfl
theorem slices_Reverse_byte_byte_c (k : Nat) : Contract Tryd.prog 179 (slices_Reverse_byte_byte_O k) :=
  fun_sound (c := bodyOf Tryd.f179) (tab_ok Tryd_tab_ok rfl rfl) orc_nil Tryd.func179 (by kernel_rfl) rfl (by kernel_rfl) (by decide) rfl rfl (by kernel_rfl) (by kernel_rfl) (by kernel_rfl) (fun x _ h => (slices_Reverse_byte_byte_ev k x.1).trans h)
end Ev
/- (*loop.example/g01207/impl.reach).word -/
namespace Ev
open Go Go.Proofs
/-! (*impl.reach).word -/
@[reducible] def im_reach_word_l2_L : List (Nat × Sh) := [(0, (.v (.pt treach))), (1, (.v I)), (6, (.o 5 (.i .u8)))]
def im_reach_word_l2s (k : Nat) (g_l2 : (Option treach.in) → Int → (List Int) → Option ((List Int) × (Bool × Unit))) (x0 : (Option treach.in)) (x1 : Int) (x6 : (List Int)) : Option ((List Int) × (Bool × Unit)) :=
  if (decide ((0 : Int) < x1)) = true then
    (x0).bind fun v1 =>
    inb x1 v1.2.2.1.length (
      if x6.length + ([(rdT (.i .u8) v1.2.2.1 x1)] : List Int).length ≤ 17179869184 then (
        (x0).bind fun v2 =>
        inb x1 v2.2.1.length (
          g_l2 x0 (rdT I v2.2.1 x1) (x6 ++ ([(rdT (.i .u8) v1.2.2.1 x1)] : List Int)))) else none)
  else
    (slices_Reverse_byte_byte k x6).bind fun r3 =>
    if (decide ((60 : Int) < (r3.2.length : Int))) = true then
      some (([] : List Int), false, ())
    else
      some (r3.2, true, ())
def im_reach_word_l2 (k : Nat)  : Nat → (Option treach.in) → Int → (List Int) → Option ((List Int) × (Bool × Unit))
  | 0, _, _, _ => none
  | n + 1, x0, x1, x6 => im_reach_word_l2s k (im_reach_word_l2 k n) x0 x1 x6
def im_reach_word_s (_k : Nat) (c_l2 : (Option treach.in) → Int → (List Int) → Option ((List Int) × (Bool × Unit))) (x0 : (Option treach.in)) (x1 : Int) : Option ((List Int) × (Bool × Unit)) :=
  c_l2 x0 x1 ([] : List Int)
def im_reach_word (k : Nat) (x0 : (Option treach.in)) (x1 : Int) : Option ((List Int) × (Bool × Unit)) := im_reach_word_s k (im_reach_word_l2 k k) x0 x1
noncomputable def im_reach_word_O (k : Nat) : Orc := { ps := [.v (.pt treach), .v I], rt := (.pr (.v T.s) (.pr (.v T.b) .un)), F := fun x => im_reach_word k x.1 x.2.1 }
noncomputable def im_reach_word_E (k : Nat) : Env := { ty := tabTy Tryd_tab, ds := tabDs Tryd_tab, rounds := k, nt := 34, orc := fun g => if Nat.beq g 179 = true then some (slices_Reverse_byte_byte_O k) else (none), lp := fun i => if Nat.beq i 2 = true then some im_reach_word_l2_L else (none), ct := fun _ => none, plan := fun _ => none }
noncomputable def im_reach_word_fin (k : Nat) : Kn ((List Int) × (Bool × Unit)) := finish (im_reach_word_E k) [.v (.pt treach), .v I] (.pr (.v T.s) (.pr (.v T.b) .un)) Tryd.f167.results.toList
noncomputable def im_reach_word_l2_e (k : Nat)  (n : Nat) (x0 : (Option treach.in)) (x1 : Int) (x6 : (List Int)) : Option ((List Int) × (Bool × Unit)) := loopF (im_reach_word_E k) im_reach_word_l2_L (ev (im_reach_word_E k) (sub (bodyOf Tryd.f167) [.r, .r, .l, .c, .c])) (kont (im_reach_word_E k) (bodyOf Tryd.f167) [.r, .r, .l, .c] [] (im_reach_word_fin k)) n (x0, x1, x6, ())
theorem im_reach_word_l2_z (k : Nat)  (x0 : (Option treach.in)) (x1 : Int) (x6 : (List Int)) : im_reach_word_l2_e k 0 x0 x1 x6 = none := by kernel_rfl
theorem im_reach_word_l2_st (k : Nat)  (n : Nat) (x0 : (Option treach.in)) (x1 : Int) (x6 : (List Int)) : im_reach_word_l2_e k (n + 1) x0 x1 x6 = im_reach_word_l2s k (im_reach_word_l2_e k n) x0 x1 x6 := by kernel_rfl
theorem im_reach_word_l2_ev (k : Nat)  : ∀ (n : Nat) (x0 : (Option treach.in)) (x1 : Int) (x6 : (List Int)), im_reach_word_l2_e k n x0 x1 x6 = im_reach_word_l2 k n x0 x1 x6
  | 0, x0, x1, x6 => im_reach_word_l2_z k x0 x1 x6
  | n + 1, x0, x1, x6 => by
    have ih : (im_reach_word_l2_e k n) = im_reach_word_l2 k n := by funext y0 y1 y2; exact im_reach_word_l2_ev k n y0 y1 y2
    rw [im_reach_word_l2_st, ih]; rfl
theorem im_reach_word_st (k : Nat) (x0 : (Option treach.in)) (x1 : Int) : evFun (im_reach_word_E k) [.v (.pt treach), .v I] (.pr (.v T.s) (.pr (.v T.b) .un)) Tryd.f167 (x0, x1, ()) = im_reach_word_s k (im_reach_word_l2_e k k) x0 x1 := by kernel_rfl
theorem im_reach_word_ev (k : Nat) (x0 : (Option treach.in)) (x1 : Int) : evFun (im_reach_word_E k) [.v (.pt treach), .v I] (.pr (.v T.s) (.pr (.v T.b) .un)) Tryd.f167 (x0, x1, ()) = im_reach_word k x0 x1 := by
  have h0 : (im_reach_word_l2_e k k) = (im_reach_word_l2 k k) := by funext y0 y1 y2; exact im_reach_word_l2_ev k k y0 y1 y2
  rw [im_reach_word_st, h0]; rfl
theorem im_reach_word_c (k : Nat) : Contract Tryd.prog 167 (im_reach_word_O k) :=
  fun_sound (c := bodyOf Tryd.f167) (tab_ok Tryd_tab_ok rfl rfl) (orc_cons (slices_Reverse_byte_byte_c k) orc_nil) Tryd.func167 (by kernel_rfl) rfl (by kernel_rfl) (by decide) rfl rfl (by kernel_rfl) (by kernel_rfl) (by kernel_rfl) (fun x _ h => (im_reach_word_ev k x.1 x.2.1).trans h)
end Ev
/- (*loop.example/g01207/impl.reach).wordTo -/
namespace Ev
open Go Go.Proofs
/-! (*impl.reach).wordTo -/
def im_reach_wordTo_s (k : Nat) (x0 : (Option treach.in)) (x1 : ((tState.in × Unit) → Option Bool)) : Option ((List Int) × (Bool × Unit)) :=
  (x0).bind fun v1 =>
  (slices_IndexFunc_impl_State_impl_State k v1.1 x1).bind fun r2 =>
  if (decide (r2 < (0 : Int))) = true then
    some (([] : List Int), false, ())
  else
    (im_reach_word k x0 r2).bind fun r3 =>
    some (r3.1, r3.2.1, ())
def im_reach_wordTo (k : Nat) (x0 : (Option treach.in)) (x1 : ((tState.in × Unit) → Option Bool)) : Option ((List Int) × (Bool × Unit)) := im_reach_wordTo_s k x0 x1
noncomputable def im_reach_wordTo_O (k : Nat) : Orc := { ps := [.v (.pt treach), .v (.fn (.pr tState T.un) T.b)], rt := (.pr (.v T.s) (.pr (.v T.b) .un)), F := fun x => im_reach_wordTo k x.1 x.2.1 }
noncomputable def im_reach_wordTo_E (k : Nat) : Env := { ty := tabTy Tryd_tab, ds := tabDs Tryd_tab, rounds := k, nt := 20, orc := fun g => if Nat.beq g 166 = true then some (slices_IndexFunc_impl_State_impl_State_O k) else (if Nat.beq g 167 = true then some (im_reach_word_O k) else (none)), lp := fun _ => none, ct := fun _ => none, plan := fun _ => none }
noncomputable def im_reach_wordTo_fin (k : Nat) : Kn ((List Int) × (Bool × Unit)) := finish (im_reach_wordTo_E k) [.v (.pt treach), .v (.fn (.pr tState T.un) T.b)] (.pr (.v T.s) (.pr (.v T.b) .un)) Tryd.f151.results.toList
theorem im_reach_wordTo_st (k : Nat) (x0 : (Option treach.in)) (x1 : ((tState.in × Unit) → Option Bool)) : evFun (im_reach_wordTo_E k) [.v (.pt treach), .v (.fn (.pr tState T.un) T.b)] (.pr (.v T.s) (.pr (.v T.b) .un)) Tryd.f151 (x0, x1, ()) = im_reach_wordTo_s k x0 x1 := by kernel_rfl
theorem im_reach_wordTo_ev (k : Nat) (x0 : (Option treach.in)) (x1 : ((tState.in × Unit) → Option Bool)) : evFun (im_reach_wordTo_E k) [.v (.pt treach), .v (.fn (.pr tState T.un) T.b)] (.pr (.v T.s) (.pr (.v T.b) .un)) Tryd.f151 (x0, x1, ()) = im_reach_wordTo k x0 x1 := by
  skip
  rw [im_reach_wordTo_st]; rfl
theorem im_reach_wordTo_c (k : Nat) : Contract Tryd.prog 151 (im_reach_wordTo_O k) :=
  fun_sound (c := bodyOf Tryd.f151) (tab_ok Tryd_tab_ok rfl rfl) (orc_cons (slices_IndexFunc_impl_State_impl_State_c k) (orc_cons (im_reach_word_c k) orc_nil)) Tryd.func151 (by kernel_rfl) rfl (by kernel_rfl) (by decide) rfl rfl (by kernel_rfl) (by kernel_rfl) (by kernel_rfl) (fun x _ h => (im_reach_wordTo_ev k x.1 x.2.1).trans h)
end Ev
/- loop.example/g01207/impl.WayToTop$1 -/
namespace Ev
open Go Go.Proofs
/-! impl.WayToTop$1 -/
def im_WayToTop_1_s (k : Nat) (x0 : tState.in) (x1 : Int) (x2 : Int) (x3 : Int) : Option Bool :=
  (im_State_isAt k x0 x1 x2).bind fun r1 =>
  if r1 = true then
    some (decide (x0.2.2.1.1 = x3))
  else
    some false
def im_WayToTop_1 (k : Nat) (x0 : tState.in) (x1 : Int) (x2 : Int) (x3 : Int) : Option Bool := im_WayToTop_1_s k x0 x1 x2 x3
noncomputable def im_WayToTop_1_O (k : Nat) : Orc := { ps := [.v tState, .v (.pt I), .v (.pt I), .v (.pt I)], rt := (.v T.b), F := fun x => Option.bind x.2.1 fun y1 => Option.bind x.2.2.1 fun y2 => Option.bind x.2.2.2.1 fun y3 => im_WayToTop_1 k x.1 y1 y2 y3 }
noncomputable def im_WayToTop_1_E (k : Nat) : Env := { ty := tabTy Tryd_tab, ds := tabDs Tryd_tab, rounds := k, nt := 17, orc := fun g => if Nat.beq g 114 = true then some (im_State_isAt_O k) else (none), lp := fun _ => none, ct := fun _ => none, plan := fun _ => none }
noncomputable def im_WayToTop_1_fin (k : Nat) : Kn Bool := finish (im_WayToTop_1_E k) [.v tState, .v (.pt I), .v (.pt I), .v (.pt I)] (.v T.b) Tryd.f152.results.toList
theorem im_WayToTop_1_st (k : Nat) (x0 : tState.in) (x1 : Int) (x2 : Int) (x3 : Int) : evFun (im_WayToTop_1_E k) [.v tState, .v (.pt I), .v (.pt I), .v (.pt I)] (.v T.b) Tryd.f152 (x0, (some x1), (some x2), (some x3), ()) = im_WayToTop_1_s k x0 x1 x2 x3 := by kernel_rfl
theorem im_WayToTop_1_ev (k : Nat) (x0 : tState.in) (x1 : Int) (x2 : Int) (x3 : Int) : evFun (im_WayToTop_1_E k) [.v tState, .v (.pt I), .v (.pt I), .v (.pt I)] (.v T.b) Tryd.f152 (x0, (some x1), (some x2), (some x3), ()) = im_WayToTop_1 k x0 x1 x2 x3 := by
  skip
  rw [im_WayToTop_1_st]; rfl
theorem im_WayToTop_1_c (k : Nat) : Contract Tryd.prog 152 (im_WayToTop_1_O k) :=
  fun_sound (c := bodyOf Tryd.f152) (tab_ok Tryd_tab_ok rfl rfl) (orc_cons (im_State_isAt_c k) orc_nil) Tryd.func152 (by kernel_rfl) rfl (by kernel_rfl) (by decide) rfl rfl (by kernel_rfl) (by kernel_rfl) (by kernel_rfl) (fun x y h => by
    obtain ⟨z0, z1, z2, z3, _⟩ := x
    cases z1 with
    | none => cases h
    | some z1 =>
    cases z2 with
    | none => cases h
    | some z2 =>
    cases z3 with
    | none => cases h
    | some z3 =>
    exact (im_WayToTop_1_ev k z0 z1 z2 z3).trans h)
end Ev
/- loop.example/g01207/impl.WayToTop -/
namespace Ev
open Go Go.Proofs
/-! impl.WayToTop -/
def im_WayToTop_s (k : Nat) (x0 : (List Int)) (x1 : tState.in) (x2 : Int) (x3 : Int) (x4 : Int) : Option ((List Int) × (Bool × Unit)) :=
  (im_reachCell k x0 x1 x2 x3).bind fun r1 =>
  if (!r1.2.1) = true then
    some (([] : List Int), false, ())
  else
    (im_in k x4 (0 : Int) (9 : Int)).bind fun r2 =>
    if (!r2) = true then
      some (([] : List Int), false, ())
    else
      (im_reach_wordTo k r1.1 (fun (a3 : (tState.in × Unit)) => (im_WayToTop_1 k a3.1 x2 x3 x4).bind fun r4 => some r4)).bind fun r5 =>
      some (r5.1, r5.2.1, ())
def im_WayToTop (k : Nat) (x0 : (List Int)) (x1 : tState.in) (x2 : Int) (x3 : Int) (x4 : Int) : Option ((List Int) × (Bool × Unit)) := im_WayToTop_s k x0 x1 x2 x3 x4
noncomputable def im_WayToTop_O (k : Nat) : Orc := { ps := [.v T.s, .v tState, .v I, .v I, .v I], rt := (.pr (.v T.s) (.pr (.v T.b) .un)), F := fun x => im_WayToTop k x.1 x.2.1 x.2.2.1 x.2.2.2.1 x.2.2.2.2.1 }
noncomputable def im_WayToTop_E (k : Nat) : Env := { ty := tabTy Tryd_tab, ds := tabDs Tryd_tab, rounds := k, nt := 34, orc := fun g => if Nat.beq g 85 = true then some (im_in_O k) else (if Nat.beq g 150 = true then some (im_reachCell_O k) else (if Nat.beq g 151 = true then some (im_reach_wordTo_O k) else (if Nat.beq g 152 = true then some (im_WayToTop_1_O k) else (none)))), lp := fun _ => none, ct := fun _ => none, plan := fun _ => none }
noncomputable def im_WayToTop_fin (k : Nat) : Kn ((List Int) × (Bool × Unit)) := finish (im_WayToTop_E k) [.v T.s, .v tState, .v I, .v I, .v I] (.pr (.v T.s) (.pr (.v T.b) .un)) Tryd.f133.results.toList
theorem im_WayToTop_st (k : Nat) (x0 : (List Int)) (x1 : tState.in) (x2 : Int) (x3 : Int) (x4 : Int) : evFun (im_WayToTop_E k) [.v T.s, .v tState, .v I, .v I, .v I] (.pr (.v T.s) (.pr (.v T.b) .un)) Tryd.f133 (x0, x1, x2, x3, x4, ()) = im_WayToTop_s k x0 x1 x2 x3 x4 := by kernel_rfl
theorem im_WayToTop_ev (k : Nat) (x0 : (List Int)) (x1 : tState.in) (x2 : Int) (x3 : Int) (x4 : Int) : evFun (im_WayToTop_E k) [.v T.s, .v tState, .v I, .v I, .v I] (.pr (.v T.s) (.pr (.v T.b) .un)) Tryd.f133 (x0, x1, x2, x3, x4, ()) = im_WayToTop k x0 x1 x2 x3 x4 := by
  skip
  rw [im_WayToTop_st]; rfl
theorem im_WayToTop_c (k : Nat) : Contract Tryd.prog 133 (im_WayToTop_O k) :=
  fun_sound (c := bodyOf Tryd.f133) (tab_ok Tryd_tab_ok rfl rfl) (orc_cons (im_in_c k) (orc_cons (im_reachCell_c k) (orc_cons (im_reach_wordTo_c k) (orc_cons (im_WayToTop_1_c k) orc_nil)))) Tryd.func133 (by kernel_rfl) rfl (by kernel_rfl) (by decide) rfl rfl (by kernel_rfl) (by kernel_rfl) (by kernel_rfl) (fun x _ h => (im_WayToTop_ev k x.1 x.2.1 x.2.2.1 x.2.2.2.1 x.2.2.2.2.1).trans h)
end Ev
/- loop.example/g01207/impl.SolutionOf -/
namespace Ev
open Go Go.Proofs
/-! impl.SolutionOf -/
def im_SolutionOf_s (k : Nat) (x0 : tPuzzle.in) : Option ((List Int) × (Bool × Unit)) :=
  (im_IsPuzzle k x0).bind fun r1 =>
  if (!r1) = true then
    some (([] : List Int), false, ())
  else
    (im_WayToTop k x0.1 x0.2.1 x0.2.2.1 x0.2.2.2.1 x0.2.2.2.2.1).bind fun r2 =>
    some (r2.1, r2.2.1, ())
def im_SolutionOf (k : Nat) (x0 : tPuzzle.in) : Option ((List Int) × (Bool × Unit)) := im_SolutionOf_s k x0
noncomputable def im_SolutionOf_O (k : Nat) : Orc := { ps := [.v tPuzzle], rt := (.pr (.v T.s) (.pr (.v T.b) .un)), F := fun x => im_SolutionOf k x.1 }
noncomputable def im_SolutionOf_E (k : Nat) : Env := { ty := tabTy Tryd_tab, ds := tabDs Tryd_tab, rounds := k, nt := 20, orc := fun g => if Nat.beq g 48 = true then some (im_IsPuzzle_O k) else (if Nat.beq g 133 = true then some (im_WayToTop_O k) else (none)), lp := fun _ => none, ct := fun _ => none, plan := fun _ => none }
noncomputable def im_SolutionOf_fin (k : Nat) : Kn ((List Int) × (Bool × Unit)) := finish (im_SolutionOf_E k) [.v tPuzzle] (.pr (.v T.s) (.pr (.v T.b) .un)) Tryd.f111.results.toList
theorem im_SolutionOf_st (k : Nat) (x0 : tPuzzle.in) : evFun (im_SolutionOf_E k) [.v tPuzzle] (.pr (.v T.s) (.pr (.v T.b) .un)) Tryd.f111 (x0, ()) = im_SolutionOf_s k x0 := by kernel_rfl
theorem im_SolutionOf_ev (k : Nat) (x0 : tPuzzle.in) : evFun (im_SolutionOf_E k) [.v tPuzzle] (.pr (.v T.s) (.pr (.v T.b) .un)) Tryd.f111 (x0, ()) = im_SolutionOf k x0 := by
  skip
  rw [im_SolutionOf_st]; rfl
theorem im_SolutionOf_c (k : Nat) : Contract Tryd.prog 111 (im_SolutionOf_O k) :=
  fun_sound (c := bodyOf Tryd.f111) (tab_ok Tryd_tab_ok rfl rfl) (orc_cons (im_IsPuzzle_c k) (orc_cons (im_WayToTop_c k) orc_nil)) Tryd.func111 (by kernel_rfl) rfl (by kernel_rfl) (by decide) rfl rfl (by kernel_rfl) (by kernel_rfl) (by kernel_rfl) (fun x _ h => (im_SolutionOf_ev k x.1).trans h)
end Ev
/- Plain laws: the shortest word to a goal. -/
namespace Ev
open Go

theorem rev_loop (k : Nat) : ∀ (n : Nat) (A M B : List Int), M.length < n → A.length + M.length ≤ 1000000000 →
    slices_Reverse_byte_byte_l1 k n (A ++ M ++ B) (A.length : Int) ((A.length : Int) + (M.length : Int) - 1) = some ((), A ++ M.reverse ++ B)
  | n + 1, A, M, B, hn, hl => by
    show slices_Reverse_byte_byte_l1s k _ _ _ _ = _
    unfold slices_Reverse_byte_byte_l1s
    cases M with
    | nil => rw [if_neg (ndt (by simp; omega))]; simp
    | cons a t =>
      rcases List.eq_nil_or_concat t with rfl | ⟨M, b, rfl⟩
      · rw [if_neg (ndt (by simp))]; simp
      · simp only [List.concat_eq_append, List.length_cons, List.length_append, List.length_nil] at hn hl
        have e0 : A ++ a :: (M.concat b) ++ B = A ++ a :: (M ++ b :: B) := by simp
        have e1 : A ++ a :: (M ++ b :: B) = (A ++ a :: M) ++ b :: B := by simp
        have e2 : (A.length : Int) + ((a :: M.concat b).length : Int) - 1 = (((A ++ a :: M).length : Nat) : Int) := by simp; omega
        have n1 : (A.length : Int).toNat = A.length := by omega
        have n2 : (((A ++ a :: M).length : Nat) : Int).toNat = (A ++ a :: M).length := by omega
        have g1 : (A ++ a :: (M ++ b :: B)).getD A.length 0 = a := app_getD _ _ _
        have g2 : (A ++ a :: (M ++ b :: B)).getD (A ++ a :: M).length 0 = b := by rw [e1]; exact app_getD _ _ _
        have hlen : (A ++ a :: M).length < (A ++ a :: (M ++ b :: B)).length := by simp
        have hlen2 : A.length < (A ++ a :: M).length := by simp
        have s1 : (A ++ a :: (M ++ b :: B)).set A.length b = A ++ b :: (M ++ b :: B) := app_set _ _ _ _
        have s2 : (A ++ b :: (M ++ b :: B)).set (A ++ a :: M).length a = (A ++ [b]) ++ M ++ (a :: B) := by
          have : A ++ b :: (M ++ b :: B) = (A ++ b :: M) ++ b :: B := by simp
          have h3 : (A ++ a :: M).length = (A ++ b :: M).length := by simp
          rw [this, h3, app_set]; simp
        rw [e0, e2, if_pos (dt (by omega)), inb_eq (by omega), inb_eq (by omega), inb_eq (by omega), n1, n2, g1, g2, s1, inb_eq (by simp; omega), s2, wr (by omega), wr (by simp; omega)]
        have e3 : (A.length : Int) + 1 = ((A ++ [b]).length : Int) := by simp
        have e4 : (((A ++ a :: M).length : Nat) : Int) - 1 = ((A ++ [b]).length : Int) + (M.length : Int) - 1 := by simp; omega
        rw [e3, e4]
        refine (rev_loop k n (A ++ [b]) M (a :: B) (by omega) (by simp; omega)).trans ?_
        simp
theorem reverse_is (k : Nat) (l : List Int) (hl : l.length < k) (_hb : l.length ≤ 1000000000) : slices_Reverse_byte_byte k l = some ((), l.reverse) := by
  have := rev_loop k k [] l [] hl (by simp; omega)
  simp only [List.nil_append, List.append_nil, List.length_nil] at this
  show slices_Reverse_byte_byte_l1 k k l 0 (IntKind.i64.wrap ((l.length : Int) - 1)) = _
  rw [wr (by omega)]
  have e : ((0 : Nat) : Int) + (l.length : Int) - 1 = (l.length : Int) - 1 := by omega
  rw [e] at this
  exact this
/-- The word to a state that is found. -/
inductive WPath (L : List En) : Nat → List Int → Prop
  | z : WPath L 0 []
  | s {i j d : Nat} {w : List Int} (h1 : 0 < j) (h2 : j < L.length) (h3 : (L.getD j e0).b = (i : Int)) (h4 : i < j) (h5 : d < 4) (h6 : (L.getD j e0).d = (d : Int)) (p : WPath L i w) : WPath L j (w ++ [chrD (d : Int)])
theorem Inv.path {g : List (List Int)} {s0 : tState.in} {L : List En} (h : Inv g s0 L) : ∀ (j : Nat), j < L.length → ∃ w, WPath L j w ∧ (w.length : Int) = (L.getD j e0).f := by
  intro j
  induction j using Nat.strongRecOn with
  | _ j ih =>
    intro hj
    by_cases h0 : j = 0
    · subst h0
      exact ⟨[], .z, by rw [h.r0]; rfl⟩
    · obtain ⟨i, d, h1, h2, h3, h4, h5, h6⟩ := h.fr j (by omega) hj
      obtain ⟨w, hw, hl⟩ := ih i h2 (by omega)
      exact ⟨w ++ [chrD (d : Int)], .s (by omega) hj h1 h2 h4 h5 hw, by rw [h3, ← hl]; simp⟩
theorem word_im (k : Nat) (_hk : 1000000000 ≤ k) {L : List En} (_hL : L.length ≤ 49000000) : ∀ {j : Nat} {w : List Int}, WPath L j w → ∀ (n : Nat) (x6 : List Int), w.length < n → x6.length + w.length ≤ 50000000 →
    im_reach_word_l2 k n (some (enc L)) (j : Int) x6 = if 60 < x6.length + w.length then some ([], false, ()) else some ((x6 ++ w.reverse).reverse, true, ()) := by
  intro j w hp
  induction hp with
  | z =>
    intro n x6 hn hx
    obtain ⟨n, rfl⟩ : ∃ m, n = m + 1 := ⟨n - 1, by omega⟩
    show im_reach_word_l2s k _ _ _ _ = _
    unfold im_reach_word_l2s
    rw [if_neg (ndt (by decide)), reverse_is k x6 (by simp at hx; omega) (by simp at hx; omega), Option.bind_some]
    by_cases h : 60 < x6.length
    · rw [if_pos (dt (by simp; omega)), if_pos (by simp; omega)]
    · rw [if_neg (ndt (by simp; omega)), if_neg (by simp; omega)]; simp
  | @s i j d w h1 h2 h3 h4 h5 h6 p ih =>
    intro n x6 hn hx
    rw [List.length_append, List.length_singleton] at hn hx
    obtain ⟨n, rfl⟩ : ∃ m, n = m + 1 := ⟨n - 1, by omega⟩
    show im_reach_word_l2s k _ _ _ _ = _
    unfold im_reach_word_l2s
    have er : rdT (.i .u8) (enc L).2.2.1 (j : Int) = chrD (d : Int) := by
      show (L.map chE).getD j 0 = _
      rw [gmap (z := e0) chE L 0 h2]
      unfold chE
      rw [h3, if_neg (by omega), h6]
    have ef : rdT I (enc L).2.1 (j : Int) = (i : Int) := by
      show (L.map En.b).getD j 0 = _
      rw [gmap (z := e0) En.b L 0 h2, h3]
    have l2 : (enc L).2.1.length = L.length := List.length_map ..
    have l3 : (enc L).2.2.1.length = L.length := List.length_map ..
    rw [if_pos (dt (by omega)), Option.bind_some, inb_eq (by rw [l3]; omega), er, if_pos (by simp; omega), Option.bind_some, inb_eq (by rw [l2]; omega), ef, ih n _ (by omega) (by simp; omega)]
    have e7 : (x6 ++ [chrD (d : Int)]).length + w.length = x6.length + (w ++ [chrD (d : Int)]).length := by simp; omega
    have e8 : (x6 ++ [chrD (d : Int)]) ++ w.reverse = x6 ++ (w ++ [chrD (d : Int)]).reverse := by simp
    rw [e7, e8]
theorem pj_at {L : List En} {all : List twyNode.in} (h : all.map pj = L.map pe) {j : Nat} (hj : j < L.length) : pj (all.getD j zN) = pe (L.getD j e0) := Rel.at (w := 0) ⟨h, rfl⟩ hj
theorem pj_len {L : List En} {all : List twyNode.in} (h : all.map pj = L.map pe) : all.length = L.length := (Rel.len (w := 0) ⟨h, rfl⟩).1
/-! ### The first goal -/
theorem first_or {α : Type} (z : α) (p : α → Bool) : ∀ l : List α, (∀ x ∈ l, p x = false) ∨ ∃ i, i < l.length ∧ p (l.getD i z) = true ∧ ∀ j, j < i → p (l.getD j z) = false
  | [] => .inl fun _ h => by cases h
  | x :: l => by
    by_cases h : p x = true
    · exact .inr ⟨0, by simp, h, fun j hj => absurd hj (Nat.not_lt_zero j)⟩
    · rcases first_or z p l with h1 | ⟨i, h1, h2, h3⟩
      · refine .inl fun y hy => ?_
        rcases List.mem_cons.1 hy with rfl | hy
        · simpa using h
        · exact h1 y hy
      · refine .inr ⟨i + 1, by simpa using h1, h2, fun j hj => ?_⟩
        cases j with
        | zero => simpa using h
        | succ j => exact h3 j (by omega)
theorem fidx_first {α : Type} (z : α) (p : α → Bool) : ∀ (l : List α) (i : Nat), i < l.length → p (l.getD i z) = true → (∀ j, j < i → p (l.getD j z) = false) → fidx p l = (i : Int)
  | [], _, h, _, _ => by cases h
  | x :: l, 0, _, h, _ => by
    have h : p x = true := h
    unfold fidx
    rw [if_pos h]; rfl
  | x :: l, i + 1, hi, h, hn => by
    have h0 : p x = false := hn 0 (by omega)
    have ih := fidx_first z p l i (by simpa using hi) h (fun j hj => hn (j + 1) (by omega))
    unfold fidx
    rw [if_neg (by simp [h0]), ih, if_neg (by omega)]; rfl
theorem pu_none (k : Nat) (p : tPuzzle.in) {L : List En} {all : List twyNode.in} (ha : all.map pj = L.map pe) (hL : L.length ≤ 49000000) (hno : ∀ e ∈ L, goal p e.s = false) : ∀ (d n j : Nat), L.length = j + d → d < n →
    sp_puStates_l6 k n p all () (all.length : Int) (j : Int) = some ([], 0, false, ())
  | 0, n + 1, j, hj, _ => by
    have hl := pj_len ha
    show sp_puStates_l6s k _ _ _ _ _ _ = _
    unfold sp_puStates_l6s
    rw [if_neg (ndt (by omega))]
  | d + 1, n + 1, j, hj, hn => by
    have hl := pj_len ha
    show sp_puStates_l6s k _ _ _ _ _ _ = _
    unfold sp_puStates_l6s
    have e1 : (all.getD (j : Int).toNat (((0 : Int), (0 : Int), ((0 : Int), (0 : Int), (0 : Int), (0 : Int), (0 : Int), (0 : Int), ()), ()), (0 : Int), (0 : Int), (0 : Int), (0 : Int), (List.replicate 4 (0 : Int)), ())).1 = (L.getD j e0).s := congrArg Prod.fst (pj_at ha (j := j) (by omega))
    have hg := hno _ (gmem (z := e0) L (j := j) (by omega))
    rw [if_pos (dt (by omega)), inb_eq (by omega), e1, puDone_is, hg, Option.bind_some, if_neg (by decide), wr (by omega)]
    exact pu_none k p ha hL hno d n (j + 1) (by omega) (by omega)
theorem pu_first (k : Nat) (p : tPuzzle.in) {L : List En} {all : List twyNode.in} (ha : all.map pj = L.map pe) (hL : L.length ≤ 49000000) {i : Nat} (hi : i < L.length) (hg : goal p (L.getD i e0).s = true) (hno : ∀ j, j < i → goal p (L.getD j e0).s = false) : ∀ (d n j : Nat), i = j + d → d < n →
    sp_puStates_l6 k n p all () (all.length : Int) (j : Int) = some (all, (L.getD i e0).f, decide ((L.getD i e0).f ≤ 60), ())
  | 0, n + 1, j, hj, _ => by
    have hl := pj_len ha
    show sp_puStates_l6s k _ _ _ _ _ _ = _
    unfold sp_puStates_l6s
    have hji : i = j := by omega
    subst hji
    have e1 : (all.getD (i : Int).toNat (((0 : Int), (0 : Int), ((0 : Int), (0 : Int), (0 : Int), (0 : Int), (0 : Int), (0 : Int), ()), ()), (0 : Int), (0 : Int), (0 : Int), (0 : Int), (List.replicate 4 (0 : Int)), ())).1 = (L.getD i e0).s := congrArg Prod.fst (pj_at ha hi)
    have e2 : (all.getD (i : Int).toNat (((0 : Int), (0 : Int), ((0 : Int), (0 : Int), (0 : Int), (0 : Int), (0 : Int), (0 : Int), ()), ()), (0 : Int), (0 : Int), (0 : Int), (0 : Int), (List.replicate 4 (0 : Int)), ())).2.1 = (L.getD i e0).f := congrArg (fun z => z.2.1) (pj_at ha hi)
    rw [if_pos (dt (by omega)), inb_eq (by omega), e1, e2, puDone_is, hg, Option.bind_some, if_pos rfl]
  | d + 1, n + 1, j, hj, hn => by
    have hl := pj_len ha
    show sp_puStates_l6s k _ _ _ _ _ _ = _
    unfold sp_puStates_l6s
    have e1 : (all.getD (j : Int).toNat (((0 : Int), (0 : Int), ((0 : Int), (0 : Int), (0 : Int), (0 : Int), (0 : Int), (0 : Int), ()), ()), (0 : Int), (0 : Int), (0 : Int), (0 : Int), (List.replicate 4 (0 : Int)), ())).1 = (L.getD j e0).s := congrArg Prod.fst (pj_at ha (j := j) (by omega))
    rw [if_pos (dt (by omega)), inb_eq (by omega), e1, puDone_is, hno j (by omega), Option.bind_some, if_neg (by decide), wr (by omega)]
    exact pu_first k p ha hL hi hg hno d n (j + 1) (by omega) (by omega)
theorem isGoal1_is (k : Nat) (p : tPuzzle.in) (s : tState.in) : im_WayToTop_1 k s p.2.2.1 p.2.2.2.1 p.2.2.2.2.1 = some (goal p s) := by
  show (Option.bind (if decide (s.1 = p.2.2.1) = true then some (decide (s.2.1 = p.2.2.2.1)) else some false) _) = _
  unfold goal
  by_cases h1 : s.1 = p.2.2.1
  · by_cases h2 : s.2.1 = p.2.2.2.1
    · simp [h1, h2]
    · simp [h1, h2]
  · simp [h1]
/-- Both sides find the same shortest word. -/
theorem states_is (k : Nat) (hk : 1000000000 ≤ k) (p : tPuzzle.in) (hs : List.length p.1 ≤ 1048576) :
    ∃ wd ok all far, sp_puStates k p = some (all, far, ok, ()) ∧ im_SolutionOf k p = some (wd, ok, ()) ∧ (ok = false → wd = []) ∧ (ok = true → far = (List.length wd : Int) ∧ List.length wd ≤ 60 ∧ ∃ w h L i, Bd [46, 35] p.1 w h ∧ puOk (spl p.1) p = true ∧ Inv (spl p.1) p.2.1 L ∧ all.map pj = L.map pe ∧
      sp_wyAll k (gr (spl p.1) w h) p.2.1 = some all ∧ im_reachOn k p.1 p.2.1 = some (some (enc L), true, ()) ∧ i < L.length ∧ goal p (L.getD i e0).s = true ∧ (∀ j, j < i → goal p (L.getD j e0).s = false) ∧ WPath L i wd ∧ (L.getD i e0).f = (List.length wd : Int)) := by
  have d2 : im_SolutionOf k p = (im_IsPuzzle k p).bind _ := rfl
  have d4 : sp_puStates k p = (sp_puGood k p).bind _ := rfl
  rw [d2]
  rcases puz_is k (by omega) p hs with ⟨w, h, b, e1, e2, h1, h2, h3, h4⟩ | ⟨g, -, h1, h2, h3, h4⟩
  · cases hp : puOk (spl p.1) p with
    | false =>
      rw [hp] at h3 h4
      rw [d4, h3, h4]
      exact ⟨[], false, _, _, rfl, rfl, fun _ => rfl, fun q => by cases q⟩
    | true =>
      rw [hp] at h3 h4

      unfold puOk stOk at hp
      simp only [Bool.and_eq_true, decide_eq_true_eq] at hp
      obtain ⟨⟨hdie, hflo⟩, hcell, htop⟩ := hp
      have hflo' : flo (spl p.1) p.2.1 = true := decide_eq_true hflo
      have hst : stOk (spl p.1) p.2.1 = true := by unfold stOk; rw [hdie, decide_eq_true hflo]; rfl
      obtain ⟨L, all, hI, ha, hA, hR⟩ := reach_is k hk b.rc p.2.1 hflo' hdie (fun a2 => (im_grid_roll k (spl p.1) a2.1 a2.2.1).bind fun r3 => some (r3.1, r3.2.1, ())) (fun s c => by
        show (im_grid_roll k (spl p.1) s c).bind _ = _
        rw [gridRoll_is k b.rc]; rfl)
      have hL := hI.bd b.rc
      have hl := pj_len ha
      rw [h3, d4, h4, Option.bind_some, Option.bind_some, if_neg (by decide), if_neg (by decide), e2, Option.bind_some, hA, Option.bind_some]
      -- the program's way
      have c1 : im_reachOn k p.1 p.2.1 = some (some (enc L), true, ()) := by
        show (im_onBoard k p.1 p.2.1).bind _ = _
        rw [h1, hst, Option.bind_some, if_neg (show ¬ ((!true) = true) by decide)]
        show (im_reached k p.2.1 (fun a2 => (im_grid_roll k (spl p.1) a2.1 a2.2.1).bind fun r3 => some (r3.1, r3.2.1, ()))).bind _ = _
        rw [hR]; rfl
      have hin : (0 ≤ p.2.2.2.1 ∧ p.2.2.2.1 < (h : Int)) ∧ (0 ≤ p.2.2.1 ∧ p.2.2.1 < (w : Int)) := flo_in b.rc (s := (p.2.2.1, p.2.2.2.1, p.2.1.2.2.1, ())) (decide_eq_true hcell)
      have c2 : im_reachCell k p.1 p.2.1 p.2.2.1 p.2.2.2.1 = some (some (enc L), true, ()) := by
        show (im_reachOn k p.1 p.2.1).bind _ = _
        rw [c1, Option.bind_some, e1, Option.bind_some, if_neg (show ¬ ((!true) = true) by decide), has_is k b.rc, Option.bind_some, if_neg (nnd hin)]
      have c3 : im_WayToTop k p.1 p.2.1 p.2.2.1 p.2.2.2.1 p.2.2.2.2.1 = (im_reach_wordTo k (some (enc L)) (fun a3 => (im_WayToTop_1 k a3.1 p.2.2.1 p.2.2.2.1 p.2.2.2.2.1).bind fun r4 => some r4)).bind fun r5 => some (r5.1, r5.2.1, ()) := by
        show (im_reachCell k p.1 p.2.1 p.2.2.1 p.2.2.2.1).bind _ = _
        rw [c2, Option.bind_some, if_neg (show ¬ ((!true) = true) by decide), im_in_is, Option.bind_some, if_neg (nnd htop)]
      have l1 : (enc L).1 = L.map En.s := rfl
      have c4 := idxSt_loop k (goal p) (fun a3 => (im_WayToTop_1 k a3.1 p.2.2.1 p.2.2.2.1 p.2.2.2.2.1).bind fun r4 => some r4) (fun x => by
        show Option.bind (im_WayToTop_1 k x p.2.2.1 p.2.2.2.1 p.2.2.2.2.1) _ = _
        rw [isGoal1_is]; rfl) (enc L).1 (by rw [l1, List.length_map]; omega) (enc L).1.length k 0 (by omega) (by rw [l1, List.length_map]; omega)
      rw [List.drop_zero] at c4
      have c5 : im_reach_wordTo k (some (enc L)) (fun a3 => (im_WayToTop_1 k a3.1 p.2.2.1 p.2.2.2.1 p.2.2.2.2.1).bind fun r4 => some r4) = (slices_IndexFunc_impl_State_impl_State_l2 k k (enc L).1 (fun a3 => (im_WayToTop_1 k a3.1 p.2.2.1 p.2.2.2.1 p.2.2.2.2.1).bind fun r4 => some r4) ((enc L).1.length : Int) ((0 : Nat) : Int)).bind _ := rfl
      rw [c3, c5, c4, Option.bind_some]
      rcases first_or e0 (fun e => goal p e.s) L with hno | ⟨i, hi, hg, hno⟩
      · have f1 : fidx (goal p) (enc L).1 = -1 := by
          rw [fidx_all]
          intro x hx
          obtain ⟨e, he, rfl⟩ := List.mem_map.1 hx
          exact hno e he
        have s1 := pu_none k p ha hL hno L.length k 0 (by omega) (by omega)
        rw [f1, if_pos rfl, if_pos (dt (by decide))]
        exact ⟨[], false, _, _, s1, rfl, fun _ => rfl, fun q => by cases q⟩
      · have f1 : fidx (goal p) (enc L).1 = (i : Int) := by
          refine fidx_first sz0 (goal p) (L.map En.s) i (by rw [List.length_map]; exact hi) ?_ fun j hj => ?_
          · rw [gmap (z := e0) En.s L sz0 hi]; exact hg
          · rw [gmap (z := e0) En.s L sz0 (by omega)]; exact hno j hj
        obtain ⟨wd, hpth, hlen⟩ := hI.path i hi
        have hfb := hI.fb i hi
        have s1 := pu_first k p ha hL hi hg hno i k 0 (by omega) (by omega)
        have c6 : im_reach_word k (some (enc L)) (i : Int) = _ := word_im k hk hL hpth k [] (by omega) (by simp; omega)
        have f2 : (if fidx (goal p) (enc L).1 = -1 then -1 else ((0 : Nat) : Int) + fidx (goal p) (enc L).1) = (i : Int) := by rw [f1, if_neg (by omega)]; omega
        rw [f2, if_neg (ndt (by omega)), c6]
        simp only [List.length_nil, Nat.zero_add, List.nil_append, List.reverse_reverse]
        by_cases hfar : (L.getD i e0).f ≤ 60
        · rw [decide_eq_true hfar] at s1
          rw [if_neg (by omega)]
          exact ⟨wd, true, _, _, s1, rfl, (fun q => by cases q), fun _ => ⟨hlen.symm, by omega, w, h, L, i, b, trivial, hI, ha, hA, c1, hi, hg, hno, hpth, hlen.symm⟩⟩
        · rw [decide_eq_false hfar] at s1
          rw [if_pos (by omega)]
          exact ⟨[], false, _, _, s1, rfl, (fun _ => rfl), fun q => by cases q⟩
  · rw [d4, h3, h4]
    exact ⟨[], false, _, _, rfl, rfl, fun _ => rfl, fun q => by cases q⟩
end Ev
/- loop.example/g01207/spec.boText -/
namespace Ev
open Go Go.Proofs
/-! spec.boText -/
@[reducible] def sp_boText_j7_L : List (Nat × Sh) := [(1, (.bx 66 (.v tboGrid))), (3, (.v T.s)), (4, (.v I))]
@[reducible] def sp_boText_l3_L : List (Nat × Sh) := [(1, (.bx 66 (.v tboGrid))), (3, (.v T.s)), (4, (.v I))]
def sp_boText_j7s (_k : Nat) (g_l3 : tboGrid.in → (List Int) → Int → Option (List Int)) (x1 : tboGrid.in) (x3 : (List Int)) (x4 : Int) : Option (List Int) :=
  cut (IntKind.i64.wrap (x4 * x1.1)) (IntKind.i64.wrap ((IntKind.i64.wrap (x4 + (1 : Int))) * x1.1)) (x1.2.2.1.length) (
    if x3.length + ((x1.2.2.1.take ((IntKind.i64.wrap ((IntKind.i64.wrap (x4 + (1 : Int))) * x1.1))).toNat).drop ((IntKind.i64.wrap (x4 * x1.1))).toNat).length ≤ 17179869184 then (
      g_l3 x1 (x3 ++ ((x1.2.2.1.take ((IntKind.i64.wrap ((IntKind.i64.wrap (x4 + (1 : Int))) * x1.1))).toNat).drop ((IntKind.i64.wrap (x4 * x1.1))).toNat)) (IntKind.i64.wrap (x4 + (1 : Int)))) else none)
def sp_boText_j7 (k : Nat) (g_l3 : tboGrid.in → (List Int) → Int → Option (List Int)) : Nat → tboGrid.in → (List Int) → Int → Option (List Int)
  | 0, _, _, _ => none
  | _ + 1, x1, x3, x4 => sp_boText_j7s k g_l3 x1 x3 x4
def sp_boText_l3s (_k : Nat) (c_j7 : (tboGrid.in → (List Int) → Int → Option (List Int)) → tboGrid.in → (List Int) → Int → Option (List Int)) (g_l3 : tboGrid.in → (List Int) → Int → Option (List Int)) (x1 : tboGrid.in) (x3 : (List Int)) (x4 : Int) : Option (List Int) :=
  if (decide (x4 < x1.2.1)) = true then
    if (decide ((0 : Int) < x4)) = true then
      if x3.length + ([47] : List Int).length ≤ 17179869184 then (
        c_j7 g_l3 x1 (x3 ++ ([47] : List Int)) x4) else none
    else
      c_j7 g_l3 x1 x3 x4
  else
    some x3
def sp_boText_l3 (k : Nat)  : Nat → tboGrid.in → (List Int) → Int → Option (List Int)
  | 0, _, _, _ => none
  | n + 1, x1, x3, x4 => sp_boText_l3s k (fun g0 => sp_boText_j7 k g0 k) (sp_boText_l3 k n) x1 x3 x4
def sp_boText_s (_k : Nat) (c_l3 : tboGrid.in → (List Int) → Int → Option (List Int)) (x0 : tboGrid.in) : Option (List Int) :=
  c_l3 x0 ([] : List Int) (0 : Int)
def sp_boText (k : Nat) (x0 : tboGrid.in) : Option (List Int) := sp_boText_s k (sp_boText_l3 k k) x0
noncomputable def sp_boText_O (k : Nat) : Orc := { ps := [.v tboGrid], rt := (.v T.s), F := fun x => sp_boText k x.1 }
noncomputable def sp_boText_E (k : Nat) : Env := { ty := tabTy Tryd_tab, ds := tabDs Tryd_tab, rounds := k, nt := 31, orc := fun _ => none, lp := fun i => if Nat.beq i 3 = true then some sp_boText_l3_L else (none), ct := fun i => if Nat.beq i 7 = true then some sp_boText_j7_L else (none), plan := fun _ => none }
noncomputable def sp_boText_fin (k : Nat) : Kn (List Int) := finish (sp_boText_E k) [.v tboGrid] (.v T.s) Tryd.f46.results.toList
noncomputable def sp_boText_j7_e (k : Nat) (g_l3 : tboGrid.in → (List Int) → Int → Option (List Int)) (n : Nat) (x1 : tboGrid.in) (x3 : (List Int)) (x4 : Int) : Option (List Int) := joinF (sp_boText_E k) sp_boText_j7_L (ev (sp_boText_E k) (sub (bodyOf Tryd.f46) [.r, .r, .l, .r, .c, .c, .r, .l, .c, .r])) (kont (sp_boText_E k) (bodyOf Tryd.f46) [.r, .r, .l, .r, .c, .c, .r, .l, .c, .r] [⟨sp_boText_l3_L, fun d => g_l3 d.1 d.2.1 d.2.2.1⟩] (sp_boText_fin k)) n (x1, x3, x4, ())
theorem sp_boText_j7_z (k : Nat) (g_l3 : tboGrid.in → (List Int) → Int → Option (List Int)) (x1 : tboGrid.in) (x3 : (List Int)) (x4 : Int) : sp_boText_j7_e k g_l3 0 x1 x3 x4 = none := by kernel_rfl
theorem sp_boText_j7_st (k : Nat) (g_l3 : tboGrid.in → (List Int) → Int → Option (List Int)) (n : Nat) (x1 : tboGrid.in) (x3 : (List Int)) (x4 : Int) : sp_boText_j7_e k g_l3 (n + 1) x1 x3 x4 = sp_boText_j7s k g_l3 x1 x3 x4 := by kernel_rfl
theorem sp_boText_j7_ev (k : Nat) (g_l3 : tboGrid.in → (List Int) → Int → Option (List Int)) : ∀ (n : Nat) (x1 : tboGrid.in) (x3 : (List Int)) (x4 : Int), sp_boText_j7_e k g_l3 n x1 x3 x4 = sp_boText_j7 k g_l3 n x1 x3 x4
  | 0, x1, x3, x4 => sp_boText_j7_z k g_l3 x1 x3 x4
  | n + 1, x1, x3, x4 => by
    skip
    rw [sp_boText_j7_st]; rfl
noncomputable def sp_boText_l3_e (k : Nat)  (n : Nat) (x1 : tboGrid.in) (x3 : (List Int)) (x4 : Int) : Option (List Int) := loopF (sp_boText_E k) sp_boText_l3_L (ev (sp_boText_E k) (sub (bodyOf Tryd.f46) [.r, .r, .l, .r, .c, .c])) (kont (sp_boText_E k) (bodyOf Tryd.f46) [.r, .r, .l, .r, .c] [] (sp_boText_fin k)) n (x1, x3, x4, ())
theorem sp_boText_l3_z (k : Nat)  (x1 : tboGrid.in) (x3 : (List Int)) (x4 : Int) : sp_boText_l3_e k 0 x1 x3 x4 = none := by kernel_rfl
theorem sp_boText_l3_st (k : Nat)  (n : Nat) (x1 : tboGrid.in) (x3 : (List Int)) (x4 : Int) : sp_boText_l3_e k (n + 1) x1 x3 x4 = sp_boText_l3s k (fun g0 => sp_boText_j7_e k g0 k) (sp_boText_l3_e k n) x1 x3 x4 := by kernel_rfl
theorem sp_boText_l3_ev (k : Nat)  : ∀ (n : Nat) (x1 : tboGrid.in) (x3 : (List Int)) (x4 : Int), sp_boText_l3_e k n x1 x3 x4 = sp_boText_l3 k n x1 x3 x4
  | 0, x1, x3, x4 => sp_boText_l3_z k x1 x3 x4
  | n + 1, x1, x3, x4 => by
    have h0 : (fun g0 => sp_boText_j7_e k g0 k) = (fun g0 => sp_boText_j7 k g0 k) := by funext g0 y0 y1 y2; exact sp_boText_j7_ev k g0 k y0 y1 y2
    have ih : (sp_boText_l3_e k n) = sp_boText_l3 k n := by funext y0 y1 y2; exact sp_boText_l3_ev k n y0 y1 y2
    rw [sp_boText_l3_st, h0, ih]; rfl
theorem sp_boText_st (k : Nat) (x0 : tboGrid.in) : evFun (sp_boText_E k) [.v tboGrid] (.v T.s) Tryd.f46 (x0, ()) = sp_boText_s k (sp_boText_l3_e k k) x0 := by kernel_rfl
theorem sp_boText_ev (k : Nat) (x0 : tboGrid.in) : evFun (sp_boText_E k) [.v tboGrid] (.v T.s) Tryd.f46 (x0, ()) = sp_boText k x0 := by
  have h0 : (sp_boText_l3_e k k) = (sp_boText_l3 k k) := by funext y0 y1 y2; exact sp_boText_l3_ev k k y0 y1 y2
  rw [sp_boText_st, h0]; rfl
theorem sp_boText_c (k : Nat) : Contract Tryd.prog 46 (sp_boText_O k) :=
  fun_sound (c := bodyOf Tryd.f46) (tab_ok Tryd_tab_ok rfl rfl) orc_nil Tryd.func46 (by kernel_rfl) rfl (by kernel_rfl) (by decide) rfl rfl (by kernel_rfl) (by kernel_rfl) (by kernel_rfl) (fun x _ h => (sp_boText_ev k x.1).trans h)
end Ev
/- loop.example/g01207/spec.boTurn -/
namespace Ev
open Go Go.Proofs
/-! spec.boTurn -/
@[reducible] def sp_boTurn_l6_L : List (Nat × Sh) := [(1, (.bx 66 (.v tboGrid))), (2, (.bx 66 (.pr (.v I) (.pr (.v I) (.pr (.o 5 (.i .u8)) .un))))), (3, (.bx 66 (.pr (.v I) (.pr (.v I) (.pr (.o 5 (.i .u8)) .un))))), (4, (.v I)), (5, (.v I))]
@[reducible] def sp_boTurn_l3_L : List (Nat × Sh) := [(1, (.bx 66 (.v tboGrid))), (2, (.bx 66 (.pr (.v I) (.pr (.v I) (.pr (.o 5 (.i .u8)) .un))))), (3, (.bx 66 (.pr (.v I) (.pr (.v I) (.pr (.o 5 (.i .u8)) .un))))), (4, (.v I))]
def sp_boTurn_l6s (_k : Nat) (g_l3 : tboGrid.in → (Int × (Int × ((List Int) × Unit))) → (Int × (Int × ((List Int) × Unit))) → Int → Option tboGrid.in) (g_l6 : tboGrid.in → (Int × (Int × ((List Int) × Unit))) → (Int × (Int × ((List Int) × Unit))) → Int → Int → Option tboGrid.in) (x1 : tboGrid.in) (x2 : (Int × (Int × ((List Int) × Unit)))) (x3 : (Int × (Int × ((List Int) × Unit)))) (x4 : Int) (x5 : Int) : Option tboGrid.in :=
  if (decide ((0 : Int) ≤ x5)) = true then
    inb (IntKind.i64.wrap ((IntKind.i64.wrap (x5 * x1.1)) + x4)) x1.2.2.1.length (
      if x3.2.2.1.length + ([(rdT (.i .u8) x1.2.2.1 (IntKind.i64.wrap ((IntKind.i64.wrap (x5 * x1.1)) + x4)))] : List Int).length ≤ 17179869184 then (
        g_l6 x1 (x2.1, x2.2.1, x2.2.2.1, ()) (x3.1, x3.2.1, (x3.2.2.1 ++ ([(rdT (.i .u8) x1.2.2.1 (IntKind.i64.wrap ((IntKind.i64.wrap (x5 * x1.1)) + x4)))] : List Int)), ()) x4 (IntKind.i64.wrap (x5 - (1 : Int)))) else none)
  else
    g_l3 x1 (x2.1, x2.2.1, x2.2.2.1, ()) (x3.1, x3.2.1, x3.2.2.1, ()) (IntKind.i64.wrap (x4 + (1 : Int)))
def sp_boTurn_l6 (k : Nat) (g_l3 : tboGrid.in → (Int × (Int × ((List Int) × Unit))) → (Int × (Int × ((List Int) × Unit))) → Int → Option tboGrid.in) : Nat → tboGrid.in → (Int × (Int × ((List Int) × Unit))) → (Int × (Int × ((List Int) × Unit))) → Int → Int → Option tboGrid.in
  | 0, _, _, _, _, _ => none
  | n + 1, x1, x2, x3, x4, x5 => sp_boTurn_l6s k g_l3 (sp_boTurn_l6 k g_l3 n) x1 x2 x3 x4 x5
def sp_boTurn_l3s (_k : Nat) (c_l6 : (tboGrid.in → (Int × (Int × ((List Int) × Unit))) → (Int × (Int × ((List Int) × Unit))) → Int → Option tboGrid.in) → tboGrid.in → (Int × (Int × ((List Int) × Unit))) → (Int × (Int × ((List Int) × Unit))) → Int → Int → Option tboGrid.in) (g_l3 : tboGrid.in → (Int × (Int × ((List Int) × Unit))) → (Int × (Int × ((List Int) × Unit))) → Int → Option tboGrid.in) (x1 : tboGrid.in) (x2 : (Int × (Int × ((List Int) × Unit)))) (x3 : (Int × (Int × ((List Int) × Unit)))) (x4 : Int) : Option tboGrid.in :=
  if (decide (x4 < x1.1)) = true then
    c_l6 g_l3 x1 (x2.1, x2.2.1, x2.2.2.1, ()) (x3.1, x3.2.1, x3.2.2.1, ()) x4 (IntKind.i64.wrap (x1.2.1 - (1 : Int)))
  else
    some (x3.1, x3.2.1, x3.2.2.1, ())
def sp_boTurn_l3 (k : Nat)  : Nat → tboGrid.in → (Int × (Int × ((List Int) × Unit))) → (Int × (Int × ((List Int) × Unit))) → Int → Option tboGrid.in
  | 0, _, _, _, _ => none
  | n + 1, x1, x2, x3, x4 => sp_boTurn_l3s k (fun g0 => sp_boTurn_l6 k g0 k) (sp_boTurn_l3 k n) x1 x2 x3 x4
def sp_boTurn_s (_k : Nat) (c_l3 : tboGrid.in → (Int × (Int × ((List Int) × Unit))) → (Int × (Int × ((List Int) × Unit))) → Int → Option tboGrid.in) (x0 : tboGrid.in) : Option tboGrid.in :=
  c_l3 x0 ((0 : Int), (0 : Int), ([] : List Int), ()) (x0.2.1, x0.1, ([] : List Int), ()) (0 : Int)
def sp_boTurn (k : Nat) (x0 : tboGrid.in) : Option tboGrid.in := sp_boTurn_s k (sp_boTurn_l3 k k) x0
noncomputable def sp_boTurn_O (k : Nat) : Orc := { ps := [.v tboGrid], rt := (.v tboGrid), F := fun x => sp_boTurn k x.1 }
noncomputable def sp_boTurn_E (k : Nat) : Env := { ty := tabTy Tryd_tab, ds := tabDs Tryd_tab, rounds := k, nt := 40, orc := fun _ => none, lp := fun i => if Nat.beq i 3 = true then some sp_boTurn_l3_L else (if Nat.beq i 6 = true then some sp_boTurn_l6_L else (none)), ct := fun _ => none, plan := fun i => if Nat.beq i 8 = true then some [(0, []), (1, []), (2, []), (3, []), (4, []), (5, []), (6, []), (7, []), (8, []), (9, []), (10, []), (11, []), (12, []), (13, []), (14, []), (15, [])] else (none) }
noncomputable def sp_boTurn_fin (k : Nat) : Kn tboGrid.in := finish (sp_boTurn_E k) [.v tboGrid] (.v tboGrid) Tryd.f47.results.toList
noncomputable def sp_boTurn_l6_e (k : Nat) (g_l3 : tboGrid.in → (Int × (Int × ((List Int) × Unit))) → (Int × (Int × ((List Int) × Unit))) → Int → Option tboGrid.in) (n : Nat) (x1 : tboGrid.in) (x2 : (Int × (Int × ((List Int) × Unit)))) (x3 : (Int × (Int × ((List Int) × Unit)))) (x4 : Int) (x5 : Int) : Option tboGrid.in := loopF (sp_boTurn_E k) sp_boTurn_l6_L (ev (sp_boTurn_E k) (sub (bodyOf Tryd.f47) [.r, .r, .l, .r, .c, .c, .r, .l, .c, .r, .c, .c])) (kont (sp_boTurn_E k) (bodyOf Tryd.f47) [.r, .r, .l, .r, .c, .c, .r, .l, .c, .r, .c] [⟨sp_boTurn_l3_L, fun d => g_l3 d.1 d.2.1 d.2.2.1 d.2.2.2.1⟩] (sp_boTurn_fin k)) n (x1, x2, x3, x4, x5, ())
theorem sp_boTurn_l6_z (k : Nat) (g_l3 : tboGrid.in → (Int × (Int × ((List Int) × Unit))) → (Int × (Int × ((List Int) × Unit))) → Int → Option tboGrid.in) (x1 : tboGrid.in) (x2 : (Int × (Int × ((List Int) × Unit)))) (x3 : (Int × (Int × ((List Int) × Unit)))) (x4 : Int) (x5 : Int) : sp_boTurn_l6_e k g_l3 0 x1 x2 x3 x4 x5 = none := by kernel_rfl
theorem sp_boTurn_l6_st (k : Nat) (g_l3 : tboGrid.in → (Int × (Int × ((List Int) × Unit))) → (Int × (Int × ((List Int) × Unit))) → Int → Option tboGrid.in) (n : Nat) (x1 : tboGrid.in) (x2 : (Int × (Int × ((List Int) × Unit)))) (x3 : (Int × (Int × ((List Int) × Unit)))) (x4 : Int) (x5 : Int) : sp_boTurn_l6_e k g_l3 (n + 1) x1 x2 x3 x4 x5 = sp_boTurn_l6s k g_l3 (sp_boTurn_l6_e k g_l3 n) x1 x2 x3 x4 x5 := by kernel_rfl
theorem sp_boTurn_l6_ev (k : Nat) (g_l3 : tboGrid.in → (Int × (Int × ((List Int) × Unit))) → (Int × (Int × ((List Int) × Unit))) → Int → Option tboGrid.in) : ∀ (n : Nat) (x1 : tboGrid.in) (x2 : (Int × (Int × ((List Int) × Unit)))) (x3 : (Int × (Int × ((List Int) × Unit)))) (x4 : Int) (x5 : Int), sp_boTurn_l6_e k g_l3 n x1 x2 x3 x4 x5 = sp_boTurn_l6 k g_l3 n x1 x2 x3 x4 x5
  | 0, x1, x2, x3, x4, x5 => sp_boTurn_l6_z k g_l3 x1 x2 x3 x4 x5
  | n + 1, x1, x2, x3, x4, x5 => by
    have ih : (sp_boTurn_l6_e k g_l3 n) = sp_boTurn_l6 k g_l3 n := by funext y0 y1 y2 y3 y4; exact sp_boTurn_l6_ev k g_l3 n y0 y1 y2 y3 y4
    rw [sp_boTurn_l6_st, ih]; rfl
noncomputable def sp_boTurn_l3_e (k : Nat)  (n : Nat) (x1 : tboGrid.in) (x2 : (Int × (Int × ((List Int) × Unit)))) (x3 : (Int × (Int × ((List Int) × Unit)))) (x4 : Int) : Option tboGrid.in := loopF (sp_boTurn_E k) sp_boTurn_l3_L (ev (sp_boTurn_E k) (sub (bodyOf Tryd.f47) [.r, .r, .l, .r, .c, .c])) (kont (sp_boTurn_E k) (bodyOf Tryd.f47) [.r, .r, .l, .r, .c] [] (sp_boTurn_fin k)) n (x1, x2, x3, x4, ())
theorem sp_boTurn_l3_z (k : Nat)  (x1 : tboGrid.in) (x2 : (Int × (Int × ((List Int) × Unit)))) (x3 : (Int × (Int × ((List Int) × Unit)))) (x4 : Int) : sp_boTurn_l3_e k 0 x1 x2 x3 x4 = none := by kernel_rfl
theorem sp_boTurn_l3_st (k : Nat)  (n : Nat) (x1 : tboGrid.in) (x2 : (Int × (Int × ((List Int) × Unit)))) (x3 : (Int × (Int × ((List Int) × Unit)))) (x4 : Int) : sp_boTurn_l3_e k (n + 1) x1 x2 x3 x4 = sp_boTurn_l3s k (fun g0 => sp_boTurn_l6_e k g0 k) (sp_boTurn_l3_e k n) x1 x2 x3 x4 := by kernel_rfl
theorem sp_boTurn_l3_ev (k : Nat)  : ∀ (n : Nat) (x1 : tboGrid.in) (x2 : (Int × (Int × ((List Int) × Unit)))) (x3 : (Int × (Int × ((List Int) × Unit)))) (x4 : Int), sp_boTurn_l3_e k n x1 x2 x3 x4 = sp_boTurn_l3 k n x1 x2 x3 x4
  | 0, x1, x2, x3, x4 => sp_boTurn_l3_z k x1 x2 x3 x4
  | n + 1, x1, x2, x3, x4 => by
    have h0 : (fun g0 => sp_boTurn_l6_e k g0 k) = (fun g0 => sp_boTurn_l6 k g0 k) := by funext g0 y0 y1 y2 y3 y4; exact sp_boTurn_l6_ev k g0 k y0 y1 y2 y3 y4
    have ih : (sp_boTurn_l3_e k n) = sp_boTurn_l3 k n := by funext y0 y1 y2 y3; exact sp_boTurn_l3_ev k n y0 y1 y2 y3
    rw [sp_boTurn_l3_st, h0, ih]; rfl
theorem sp_boTurn_st (k : Nat) (x0 : tboGrid.in) : evFun (sp_boTurn_E k) [.v tboGrid] (.v tboGrid) Tryd.f47 (x0, ()) = sp_boTurn_s k (sp_boTurn_l3_e k k) x0 := by kernel_rfl
theorem sp_boTurn_ev (k : Nat) (x0 : tboGrid.in) : evFun (sp_boTurn_E k) [.v tboGrid] (.v tboGrid) Tryd.f47 (x0, ()) = sp_boTurn k x0 := by
  have h0 : (sp_boTurn_l3_e k k) = (sp_boTurn_l3 k k) := by funext y0 y1 y2 y3; exact sp_boTurn_l3_ev k k y0 y1 y2 y3
  rw [sp_boTurn_st, h0]; rfl
theorem sp_boTurn_c (k : Nat) : Contract Tryd.prog 47 (sp_boTurn_O k) :=
  fun_sound (c := bodyOf Tryd.f47) (tab_ok Tryd_tab_ok rfl rfl) orc_nil Tryd.func47 (by kernel_rfl) rfl (by kernel_rfl) (by decide) rfl rfl (by kernel_rfl) (by kernel_rfl) (by kernel_rfl) (fun x _ h => (sp_boTurn_ev k x.1).trans h)
end Ev
/- (loop.example/g01207/impl.grid).turn -/
namespace Ev
open Go Go.Proofs
/-! (impl.grid).turn -/
@[reducible] def im_grid_turn_l7_L : List (Nat × Sh) := [(0, (.v (.sl T.s))), (3, (.o 9 T.s)), (4, (.v I)), (5, (.o 5 (.i .u8))), (6, (.v I)), (11, (.v I)), (12, (.v I))]
@[reducible] def im_grid_turn_l3_L : List (Nat × Sh) := [(0, (.v (.sl T.s))), (3, (.o 9 T.s)), (11, (.v I)), (12, (.v I))]
def im_grid_turn_l7s (_k : Nat) (g_l3 : (List (List Int)) → (List (List Int)) → Int → Int → Option (List (List Int))) (g_l7 : (List (List Int)) → (List (List Int)) → Int → (List Int) → Int → Int → Int → Option (List (List Int))) (x0 : (List (List Int))) (x3 : (List (List Int))) (x4 : Int) (x5 : (List Int)) (x6 : Int) (x11 : Int) (x12 : Int) : Option (List (List Int)) :=
  if (decide ((0 : Int) ≤ x6)) = true then
    inb x6 x0.length (
      inb x4 (rdT T.s x0 x6).length (
        if x5.length + ([((rdT T.s x0 x6).getD (x4).toNat 0)] : List Int).length ≤ 17179869184 then (
          g_l7 x0 x3 x4 (x5 ++ ([((rdT T.s x0 x6).getD (x4).toNat 0)] : List Int)) (IntKind.i64.wrap (x6 - (1 : Int))) x11 x12) else none))
  else
    if x3.length + ([x5] : List (List Int)).length ≤ 17179869184 then (
      g_l3 x0 (x3 ++ ([x5] : List (List Int))) x11 (IntKind.i64.wrap (x12 + (1 : Int)))) else none
def im_grid_turn_l7 (k : Nat) (g_l3 : (List (List Int)) → (List (List Int)) → Int → Int → Option (List (List Int))) : Nat → (List (List Int)) → (List (List Int)) → Int → (List Int) → Int → Int → Int → Option (List (List Int))
  | 0, _, _, _, _, _, _, _ => none
  | n + 1, x0, x3, x4, x5, x6, x11, x12 => im_grid_turn_l7s k g_l3 (im_grid_turn_l7 k g_l3 n) x0 x3 x4 x5 x6 x11 x12
def im_grid_turn_l3s (_k : Nat) (c_l7 : ((List (List Int)) → (List (List Int)) → Int → Int → Option (List (List Int))) → (List (List Int)) → (List (List Int)) → Int → (List Int) → Int → Int → Int → Option (List (List Int))) (g_l3 : (List (List Int)) → (List (List Int)) → Int → Int → Option (List (List Int))) (x0 : (List (List Int))) (x3 : (List (List Int))) (x11 : Int) (x12 : Int) : Option (List (List Int)) :=
  if (decide (x12 < x11)) = true then
    c_l7 g_l3 x0 x3 x12 ([] : List Int) (IntKind.i64.wrap ((x0.length : Int) - (1 : Int))) x11 x12
  else
    some x3
def im_grid_turn_l3 (k : Nat)  : Nat → (List (List Int)) → (List (List Int)) → Int → Int → Option (List (List Int))
  | 0, _, _, _, _ => none
  | n + 1, x0, x3, x11, x12 => im_grid_turn_l3s k (fun g0 => im_grid_turn_l7 k g0 k) (im_grid_turn_l3 k n) x0 x3 x11 x12
def im_grid_turn_s (_k : Nat) (c_l3 : (List (List Int)) → (List (List Int)) → Int → Int → Option (List (List Int))) (x0 : (List (List Int))) : Option (List (List Int)) :=
  inb (0 : Int) x0.length (
    c_l3 x0 ([] : List (List Int)) ((rdT T.s x0 (0 : Int)).length : Int) (0 : Int))
def im_grid_turn (k : Nat) (x0 : (List (List Int))) : Option (List (List Int)) := im_grid_turn_s k (im_grid_turn_l3 k k) x0
noncomputable def im_grid_turn_O (k : Nat) : Orc := { ps := [.v (.sl T.s)], rt := (.o 9 T.s), F := fun x => im_grid_turn k x.1 }
noncomputable def im_grid_turn_E (k : Nat) : Env := { ty := tabTy Tryd_tab, ds := tabDs Tryd_tab, rounds := k, nt := 39, orc := fun _ => none, lp := fun i => if Nat.beq i 3 = true then some im_grid_turn_l3_L else (if Nat.beq i 7 = true then some im_grid_turn_l7_L else (none)), ct := fun _ => none, plan := fun _ => none }
noncomputable def im_grid_turn_fin (k : Nat) : Kn (List (List Int)) := finish (im_grid_turn_E k) [.v (.sl T.s)] (.o 9 T.s) Tryd.f92.results.toList
noncomputable def im_grid_turn_l7_e (k : Nat) (g_l3 : (List (List Int)) → (List (List Int)) → Int → Int → Option (List (List Int))) (n : Nat) (x0 : (List (List Int))) (x3 : (List (List Int))) (x4 : Int) (x5 : (List Int)) (x6 : Int) (x11 : Int) (x12 : Int) : Option (List (List Int)) := loopF (im_grid_turn_E k) im_grid_turn_l7_L (ev (im_grid_turn_E k) (sub (bodyOf Tryd.f92) [.r, .r, .l, .r, .c, .c, .r, .r, .l, .c, .r, .r, .l, .r, .c, .c])) (kont (im_grid_turn_E k) (bodyOf Tryd.f92) [.r, .r, .l, .r, .c, .c, .r, .r, .l, .c, .r, .r, .l, .r, .c] [⟨im_grid_turn_l3_L, fun d => g_l3 d.1 d.2.1 d.2.2.1 d.2.2.2.1⟩] (im_grid_turn_fin k)) n (x0, x3, x4, x5, x6, x11, x12, ())
theorem im_grid_turn_l7_z (k : Nat) (g_l3 : (List (List Int)) → (List (List Int)) → Int → Int → Option (List (List Int))) (x0 : (List (List Int))) (x3 : (List (List Int))) (x4 : Int) (x5 : (List Int)) (x6 : Int) (x11 : Int) (x12 : Int) : im_grid_turn_l7_e k g_l3 0 x0 x3 x4 x5 x6 x11 x12 = none := by kernel_rfl
theorem im_grid_turn_l7_st (k : Nat) (g_l3 : (List (List Int)) → (List (List Int)) → Int → Int → Option (List (List Int))) (n : Nat) (x0 : (List (List Int))) (x3 : (List (List Int))) (x4 : Int) (x5 : (List Int)) (x6 : Int) (x11 : Int) (x12 : Int) : im_grid_turn_l7_e k g_l3 (n + 1) x0 x3 x4 x5 x6 x11 x12 = im_grid_turn_l7s k g_l3 (im_grid_turn_l7_e k g_l3 n) x0 x3 x4 x5 x6 x11 x12 := by kernel_rfl
theorem im_grid_turn_l7_ev (k : Nat) (g_l3 : (List (List Int)) → (List (List Int)) → Int → Int → Option (List (List Int))) : ∀ (n : Nat) (x0 : (List (List Int))) (x3 : (List (List Int))) (x4 : Int) (x5 : (List Int)) (x6 : Int) (x11 : Int) (x12 : Int), im_grid_turn_l7_e k g_l3 n x0 x3 x4 x5 x6 x11 x12 = im_grid_turn_l7 k g_l3 n x0 x3 x4 x5 x6 x11 x12
  | 0, x0, x3, x4, x5, x6, x11, x12 => im_grid_turn_l7_z k g_l3 x0 x3 x4 x5 x6 x11 x12
  | n + 1, x0, x3, x4, x5, x6, x11, x12 => by
    have ih : (im_grid_turn_l7_e k g_l3 n) = im_grid_turn_l7 k g_l3 n := by funext y0 y1 y2 y3 y4 y5 y6; exact im_grid_turn_l7_ev k g_l3 n y0 y1 y2 y3 y4 y5 y6
    rw [im_grid_turn_l7_st, ih]; rfl
noncomputable def im_grid_turn_l3_e (k : Nat)  (n : Nat) (x0 : (List (List Int))) (x3 : (List (List Int))) (x11 : Int) (x12 : Int) : Option (List (List Int)) := loopF (im_grid_turn_E k) im_grid_turn_l3_L (ev (im_grid_turn_E k) (sub (bodyOf Tryd.f92) [.r, .r, .l, .r, .c, .c])) (kont (im_grid_turn_E k) (bodyOf Tryd.f92) [.r, .r, .l, .r, .c] [] (im_grid_turn_fin k)) n (x0, x3, x11, x12, ())
theorem im_grid_turn_l3_z (k : Nat)  (x0 : (List (List Int))) (x3 : (List (List Int))) (x11 : Int) (x12 : Int) : im_grid_turn_l3_e k 0 x0 x3 x11 x12 = none := by kernel_rfl
theorem im_grid_turn_l3_st (k : Nat)  (n : Nat) (x0 : (List (List Int))) (x3 : (List (List Int))) (x11 : Int) (x12 : Int) : im_grid_turn_l3_e k (n + 1) x0 x3 x11 x12 = im_grid_turn_l3s k (fun g0 => im_grid_turn_l7_e k g0 k) (im_grid_turn_l3_e k n) x0 x3 x11 x12 := by kernel_rfl
theorem im_grid_turn_l3_ev (k : Nat)  : ∀ (n : Nat) (x0 : (List (List Int))) (x3 : (List (List Int))) (x11 : Int) (x12 : Int), im_grid_turn_l3_e k n x0 x3 x11 x12 = im_grid_turn_l3 k n x0 x3 x11 x12
  | 0, x0, x3, x11, x12 => im_grid_turn_l3_z k x0 x3 x11 x12
  | n + 1, x0, x3, x11, x12 => by
    have h0 : (fun g0 => im_grid_turn_l7_e k g0 k) = (fun g0 => im_grid_turn_l7 k g0 k) := by funext g0 y0 y1 y2 y3 y4 y5 y6; exact im_grid_turn_l7_ev k g0 k y0 y1 y2 y3 y4 y5 y6
    have ih : (im_grid_turn_l3_e k n) = im_grid_turn_l3 k n := by funext y0 y1 y2 y3; exact im_grid_turn_l3_ev k n y0 y1 y2 y3
    rw [im_grid_turn_l3_st, h0, ih]; rfl
theorem im_grid_turn_st (k : Nat) (x0 : (List (List Int))) : evFun (im_grid_turn_E k) [.v (.sl T.s)] (.o 9 T.s) Tryd.f92 (x0, ()) = im_grid_turn_s k (im_grid_turn_l3_e k k) x0 := by kernel_rfl
theorem im_grid_turn_ev (k : Nat) (x0 : (List (List Int))) : evFun (im_grid_turn_E k) [.v (.sl T.s)] (.o 9 T.s) Tryd.f92 (x0, ()) = im_grid_turn k x0 := by
  have h0 : (im_grid_turn_l3_e k k) = (im_grid_turn_l3 k k) := by funext y0 y1 y2 y3; exact im_grid_turn_l3_ev k k y0 y1 y2 y3
  rw [im_grid_turn_st, h0]; rfl
theorem im_grid_turn_c (k : Nat) : Contract Tryd.prog 92 (im_grid_turn_O k) :=
  fun_sound (c := bodyOf Tryd.f92) (tab_ok Tryd_tab_ok rfl rfl) orc_nil Tryd.func92 (by kernel_rfl) rfl (by kernel_rfl) (by decide) rfl rfl (by kernel_rfl) (by kernel_rfl) (by kernel_rfl) (fun x _ h => (im_grid_turn_ev k x.1).trans h)
end Ev
/- A library function. -/
/- (loop.example/g01207/impl.grid).text -/
namespace Ev
open Go Go.Proofs
/-! (impl.grid).text -/
def im_grid_text_s (k : Nat) (x0 : (List (List Int))) : Option (List Int) :=
  (strings_Join k x0 ([47] : List Int)).bind fun r1 =>
  some r1
def im_grid_text (k : Nat) (x0 : (List (List Int))) : Option (List Int) := im_grid_text_s k x0
noncomputable def im_grid_text_O (k : Nat) : Orc := { ps := [.v (.sl T.s)], rt := (.v T.s), F := fun x => im_grid_text k x.1 }
noncomputable def im_grid_text_E (k : Nat) : Env := { ty := tabTy Tryd_tab, ds := tabDs Tryd_tab, rounds := k, nt := 5, orc := fun g => if Nat.beq g 77 = true then some (strings_Join_O k) else (none), lp := fun _ => none, ct := fun _ => none, plan := fun _ => none }
noncomputable def im_grid_text_fin (k : Nat) : Kn (List Int) := finish (im_grid_text_E k) [.v (.sl T.s)] (.v T.s) Tryd.f62.results.toList
theorem im_grid_text_st (k : Nat) (x0 : (List (List Int))) : evFun (im_grid_text_E k) [.v (.sl T.s)] (.v T.s) Tryd.f62 (x0, ()) = im_grid_text_s k x0 := by kernel_rfl
theorem im_grid_text_ev (k : Nat) (x0 : (List (List Int))) : evFun (im_grid_text_E k) [.v (.sl T.s)] (.v T.s) Tryd.f62 (x0, ()) = im_grid_text k x0 := by
  skip
  rw [im_grid_text_st]; rfl
theorem im_grid_text_c (k : Nat) : Contract Tryd.prog 62 (im_grid_text_O k) :=
  fun_sound (c := bodyOf Tryd.f62) (tab_ok Tryd_tab_ok rfl rfl) (orc_cons (strings_Join_c k) orc_nil) Tryd.func62 (by kernel_rfl) rfl (by kernel_rfl) (by decide) rfl rfl (by kernel_rfl) (by kernel_rfl) (by kernel_rfl) (fun x _ h => (im_grid_text_ev k x.1).trans h)
end Ev
/- Plain laws: the text of a board and the turned board. -/
namespace Ev
open Go

/-- The text of rows. -/
def jnT (g : List (List Int)) : List Int := (g.map fun r => 47 :: r).flatten
def jn : List (List Int) → List Int
  | [] => []
  | r :: g => r ++ jnT g
theorem inter_is : ∀ (r : List Int) (g : List (List Int)), List.intercalate [47] (r :: g) = r ++ jnT g
  | r, [] => by simp [List.intercalate, jnT]
  | r, q :: g => by
    have := inter_is q g
    simp only [List.intercalate] at this ⊢
    rw [List.intersperse_cons_cons, List.flatten_cons, List.flatten_cons, this]
    simp [jnT]
theorem jn_is (g : List (List Int)) : sjoinI g [47] = jn g := by
  cases g with
  | nil => rfl
  | cons r g => exact inter_is r g
theorem jnT_len : ∀ g : List (List Int), (jnT g).length = g.flatten.length + g.length
  | [] => rfl
  | r :: g => by
    have := jnT_len g
    simp only [jnT, List.map_cons, List.flatten_cons, List.length_append, List.length_cons] at this ⊢
    omega
theorem jn_len (g : List (List Int)) : (jn g).length ≤ g.flatten.length + g.length := by
  cases g with
  | nil => simp [jn]
  | cons r g =>
    have := jnT_len g
    simp only [jn, List.length_append, List.flatten_cons, List.length_cons]
    omega
theorem Rc.flat {g : List (List Int)} {w h : Nat} (r : Rc g w h) : g.flatten.length = w * h ∧ w * h ≤ 7 * 7 := by
  refine ⟨?_, Nat.mul_le_mul r.w7 r.h7⟩
  rw [flat_len g r.row, r.len]
theorem text_is (k : Nat) {g : List (List Int)} {w h : Nat} (r : Rc g w h) : im_grid_text k g = some (jn g) := by
  have h1 := jn_len g
  have h2 := r.flat; have h3 := r.len; have h4 := r.h7
  show (strings_Join k g [47]).bind _ = _
  have : strings_Join k g [47] = some (jn g) := by
    show sjoinF _ _ = _
    unfold sjoinF
    rw [jn_is, if_pos (by omega), if_pos (by omega)]
  rw [this]; rfl
theorem flat_slice {w : Nat} : ∀ (g : List (List Int)) (j : Nat), (∀ r ∈ g, r.length = w) → j < g.length → (g.flatten.take ((j + 1) * w)).drop (j * w) = g.getD j []
  | [], _, _, h => by cases h
  | r :: g, 0, hr, _ => by
    have := hr r List.mem_cons_self
    simp [← this]
  | r :: g, j + 1, hr, hj => by
    have h1 := hr r List.mem_cons_self
    have ih := flat_slice g j (fun q hq => hr q (List.mem_cons_of_mem _ hq)) (by simpa using hj)
    have e1 : (j + 1 + 1) * w = r.length + (j + 1) * w := by rw [h1, Nat.add_mul (j + 1)]; omega
    have e2 : (j + 1) * w = r.length + j * w := by rw [h1, Nat.add_mul]; omega
    rw [e1, List.flatten_cons, List.take_length_add_append]
    have e3 : (r ++ g.flatten.take ((j + 1) * w)).drop ((j + 1) * w) = (g.flatten.take ((j + 1) * w)).drop (j * w) := by
      conv => lhs; arg 1; rw [e2]
      exact List.drop_length_add_append _
    rw [e3, ih]; rfl
theorem boText_loop (k : Nat) (hk : 2097152 ≤ k) {g : List (List Int)} {w h : Nat} (r : Rc g w h) : ∀ (d n j : Nat) (out : List Int), h = j + d → d < n → out.length ≤ 100 * j →
    sp_boText_l3 k n (gr g w h) out (j : Int) = some (out ++ if j = 0 then jn g else jnT (g.drop j))
  | 0, n + 1, j, out, hj, _, _ => by
    have hl := r.len; have h1 := r.h1
    show sp_boText_l3s k _ _ _ _ _ = _
    unfold sp_boText_l3s
    have ew : (gr g w h).2.1 = (h : Int) := rfl
    rw [ew, if_neg (ndt (by omega)), List.drop_of_length_le (by omega), if_neg (by omega)]
    simp [jnT]
  | d + 1, n + 1, j, out, hj, hn, ho => by
    have hl := r.len; have h1 := r.h1; have h7 := r.h7; have w7 := r.w7; have hfl := r.flat
    have hlt : j < g.length := by omega
    have hrow : (g.getD j []).length = w := r.rowj (by omega)
    have m1 : j * w ≤ 7 * 7 := Nat.mul_le_mul (by omega) w7
    have m2 : (j + 1) * w ≤ h * w := Nat.mul_le_mul_right w (by omega)
    have m3 : j * w ≤ (j + 1) * w := Nat.mul_le_mul_right w (by omega)
    have m4 : h * w = w * h := Nat.mul_comm h w
    have hdr := getD_drop g j [] hlt
    have ih := fun o ho => boText_loop k hk r d n (j + 1) o (by omega) (by omega) ho
    have hj7 : ∀ o : List Int, o.length ≤ 100 * j + 1 → sp_boText_j7 k (sp_boText_l3 k n) k (gr g w h) o (j : Int) = some (o ++ g.getD j [] ++ jnT (g.drop (j + 1))) := by
      intro o ho
      obtain ⟨m, rfl⟩ : ∃ m, k = m + 1 := ⟨k - 1, by omega⟩
      show sp_boText_j7s (m + 1) _ _ _ _ = _
      unfold sp_boText_j7s
      have e1 : IntKind.i64.wrap ((j : Int) * (gr g w h).1) = ((j * w : Nat) : Int) := by
        show IntKind.i64.wrap ((j : Int) * (w : Int)) = _
        rw [mulI, wr (by omega)]
      have e0 : IntKind.i64.wrap ((j : Int) + 1) = ((j + 1 : Nat) : Int) := by rw [wr (by omega)]; rfl
      have e2 : IntKind.i64.wrap (((j + 1 : Nat) : Int) * (gr g w h).1) = (((j + 1) * w : Nat) : Int) := by
        show IntKind.i64.wrap (((j + 1 : Nat) : Int) * (w : Int)) = _
        rw [mulI, wr (by omega)]
      have e3 : ((gr g w h).2.2.1.take ((((j + 1) * w : Nat) : Int)).toNat).drop (((j * w : Nat) : Int)).toNat = g.getD j [] := flat_slice g j r.row hlt
      have e4 : (gr g w h).2.2.1.length = w * h := hfl.1
      rw [e0, e1, e2, cut_eq (by rw [e4]; omega), e3, if_pos (by omega), ih _ (by rw [List.length_append]; omega)]
      simp
    show sp_boText_l3s k _ _ _ _ _ = _
    unfold sp_boText_l3s
    have ew : (gr g w h).2.1 = (h : Int) := rfl
    rw [ew, if_pos (dt (by omega))]
    by_cases h0 : j = 0
    · rw [if_neg (ndt (by omega)), if_pos h0]
      refine (hj7 out (by omega)).trans ?_
      subst h0
      rw [List.drop_zero] at hdr
      rw [List.append_assoc]
      conv => rhs; rw [hdr]
      rfl
    · rw [if_pos (dt (by omega)), if_pos (by simp; omega), if_neg h0]
      refine (hj7 (out ++ [47]) (by simp; omega)).trans ?_
      rw [hdr]
      simp [jnT]
theorem boText_is (k : Nat) (hk : 2097152 ≤ k) {g : List (List Int)} {w h : Nat} (r : Rc g w h) : sp_boText k (gr g w h) = some (jn g) := by
  have := r.h7
  exact (boText_loop k hk r h k 0 [] (by omega) (by omega) (by simp)).trans (by simp)

/-! ### Turned rows -/
def colD (g : List (List Int)) (x : Nat) : Nat → List Int
  | 0 => []
  | j + 1 => (g.getD j []).getD x 0 :: colD g x j
def trnF (g : List (List Int)) (h : Nat) : Nat → Nat → List (List Int)
  | _, 0 => []
  | x, d + 1 => colD g x h :: trnF g h (x + 1) d
theorem colD_len (g : List (List Int)) (x : Nat) : ∀ j, (colD g x j).length = j
  | 0 => rfl
  | j + 1 => by simp [colD, colD_len g x j]
theorem trnF_len (g : List (List Int)) (h : Nat) : ∀ d x, (trnF g h x d).length = d
  | 0, _ => rfl
  | d + 1, x => by simp [trnF, trnF_len g h d (x + 1)]
theorem trnF_row (g : List (List Int)) (h : Nat) : ∀ d x, ∀ r ∈ trnF g h x d, r.length = h
  | 0, _, r, q => by cases q
  | d + 1, x, r, q => by
    rcases List.mem_cons.1 q with rfl | q
    · exact colD_len g x h
    · exact trnF_row g h d (x + 1) r q
theorem Rc.turn {g : List (List Int)} {w h : Nat} (r : Rc g w h) : Rc (trnF g h 0 w) h w := ⟨trnF_len g h w 0, trnF_row g h w 0, r.h1, r.h7, r.w1, r.w7⟩
theorem turn_in (k : Nat) {g : List (List Int)} {w h : Nat} (r : Rc g w h) (g3 : List (List Int) → List (List Int) → Int → Int → Option (List (List Int))) (x3 : List (List Int)) (x : Nat) (hx : x < w) (x11 : Int) (h3 : x3.length ≤ 100) : ∀ (j n : Nat) (o : List Int), j ≤ h → j < n → o.length + j ≤ 100 →
    im_grid_turn_l7 k g3 n g x3 (x : Int) o ((j : Int) - 1) x11 (x : Int) = g3 g (x3 ++ [o ++ colD g x j]) x11 ((x + 1 : Nat) : Int)
  | 0, n + 1, o, _, _, _ => by
    have w7 := r.w7
    show im_grid_turn_l7s k _ _ _ _ _ _ _ _ _ = _
    unfold im_grid_turn_l7s
    rw [if_neg (ndt (by omega)), if_pos (by simp; omega), wr (by omega)]
    simp [colD]
  | j + 1, n + 1, o, hj, hn, ho => by
    have hl := r.len; have h7 := r.h7
    show im_grid_turn_l7s k _ _ _ _ _ _ _ _ _ = _
    unfold im_grid_turn_l7s
    have e0 : ((j + 1 : Nat) : Int) - 1 = (j : Int) := by omega
    have e1 : rdT T.s g (j : Int) = g.getD j [] := rfl
    have e2 : (g.getD j []).length = w := r.rowj (by omega)
    have e3 : (g.getD j []).getD (x : Int).toNat 0 = (g.getD j []).getD x 0 := rfl
    rw [e0, if_pos (dt (by omega)), inb_eq (by omega), e1, e2, inb_eq (by omega), e3, if_pos (by simp; omega), wr (by omega)]
    rw [turn_in k r g3 x3 x hx x11 h3 j n _ (by omega) (by omega) (by simp; omega)]
    simp [colD]
theorem turn_loop (k : Nat) (hk : 2097152 ≤ k) {g : List (List Int)} {w h : Nat} (r : Rc g w h) : ∀ (d n x : Nat) (o : List (List Int)), w = x + d → d < n → o.length + d ≤ 100 →
    im_grid_turn_l3 k n g o (w : Int) (x : Int) = some (o ++ trnF g h x d)
  | 0, n + 1, x, o, hx, _, _ => by
    show im_grid_turn_l3s k _ _ _ _ _ _ = _
    unfold im_grid_turn_l3s
    rw [if_neg (ndt (by omega))]; simp [trnF]
  | d + 1, n + 1, x, o, hx, hn, ho => by
    have hl := r.len; have h7 := r.h7; have h1 := r.h1
    show im_grid_turn_l3s k _ _ _ _ _ _ = _
    unfold im_grid_turn_l3s
    rw [if_pos (dt (by omega)), hl, wr (by omega)]
    refine (turn_in k r _ o x (by omega) (w : Int) (by omega) h k [] (Nat.le_refl _) (by omega) (by simp; omega)).trans ?_
    rw [turn_loop k hk r d n (x + 1) _ (by omega) (by omega) (by simp; omega)]
    simp [trnF]
theorem turn_is (k : Nat) (hk : 2097152 ≤ k) {g : List (List Int)} {w h : Nat} (r : Rc g w h) : im_grid_turn k g = some (trnF g h 0 w) := by
  have hl := r.len; have h1 := r.h1; have w7 := r.w7
  have e1 : rdT T.s g 0 = g.getD 0 [] := rfl
  show inb 0 g.length _ = _
  rw [inb_eq (by omega), e1, r.row0]
  exact (turn_loop k hk r w k 0 [] (by omega) (by omega) (by simp; omega)).trans (by simp)
theorem boTurn_in (k : Nat) {g : List (List Int)} {w h : Nat} (r : Rc g w h) (g3 : tboGrid.in → (Int × (Int × ((List Int) × Unit))) → (Int × (Int × ((List Int) × Unit))) → Int → Option tboGrid.in) (x2 : Int × (Int × (List Int × Unit))) (a b : Int) (x : Nat) (hx : x < w) : ∀ (j n : Nat) (o : List Int), j ≤ h → j < n → o.length + j ≤ 100 →
    sp_boTurn_l6 k g3 n (gr g w h) x2 (a, b, o, ()) (x : Int) ((j : Int) - 1) = g3 (gr g w h) x2 (a, b, o ++ colD g x j, ()) ((x + 1 : Nat) : Int)
  | 0, n + 1, o, _, _, _ => by
    have w7 := r.w7
    show sp_boTurn_l6s k _ _ _ _ _ _ _ = _
    unfold sp_boTurn_l6s
    rw [if_neg (ndt (by omega)), wr (by omega)]
    simp [colD]
  | j + 1, n + 1, o, hj, hn, ho => by
    have hl := r.len; have h7 := r.h7; have hfl := r.flat; have w7 := r.w7
    have m1 : j * w + w ≤ w * h := by
      have : (j + 1) * w ≤ h * w := Nat.mul_le_mul_right w (by omega)
      rw [Nat.add_mul, Nat.mul_comm h w] at this; omega
    show sp_boTurn_l6s k _ _ _ _ _ _ _ = _
    unfold sp_boTurn_l6s
    have e0 : ((j + 1 : Nat) : Int) - 1 = (j : Int) := by omega
    have e1 : IntKind.i64.wrap ((j : Int) * (gr g w h).1) = ((j * w : Nat) : Int) := by
      show IntKind.i64.wrap ((j : Int) * (w : Int)) = _
      rw [mulI, wr (by omega)]
    have e2 : IntKind.i64.wrap (((j * w : Nat) : Int) + (x : Int)) = ((j * w + x : Nat) : Int) := by rw [wr (by omega)]; simp
    have e3 : rdT (.i .u8) (gr g w h).2.2.1 ((j * w + x : Nat) : Int) = (g.getD j []).getD x 0 := (flat_getD g x j r.row hx (by omega))
    have e4 : (gr g w h).2.2.1.length = w * h := hfl.1
    rw [e0, e1, e2, e3, if_pos (dt (by omega)), inb_eq (by rw [e4]; omega), if_pos (by simp; omega), wr (by omega)]
    refine (boTurn_in k r g3 x2 a b x hx j n (o ++ [(g.getD j []).getD x 0]) (by omega) (by omega) (by simp; omega)).trans ?_
    simp [colD]
theorem boTurn_loop (k : Nat) (hk : 2097152 ≤ k) {g : List (List Int)} {w h : Nat} (r : Rc g w h) (x2 : Int × (Int × (List Int × Unit))) (a b : Int) : ∀ (d n x : Nat) (o : List Int), w = x + d → d < n → o.length + d * h ≤ 60 →
    sp_boTurn_l3 k n (gr g w h) x2 (a, b, o, ()) (x : Int) = some (a, b, o ++ (trnF g h x d).flatten, ())
  | 0, n + 1, x, o, hx, _, _ => by
    show sp_boTurn_l3s k _ _ _ _ _ _ = _
    unfold sp_boTurn_l3s
    have ew : (gr g w h).1 = (w : Int) := rfl
    rw [ew, if_neg (ndt (by omega))]; simp [trnF]
  | d + 1, n + 1, x, o, hx, hn, ho => by
    have h7 := r.h7; have h1 := r.h1
    rw [Nat.add_mul] at ho
    show sp_boTurn_l3s k _ _ _ _ _ _ = _
    unfold sp_boTurn_l3s
    have ew : (gr g w h).1 = (w : Int) := rfl
    have ew2 : (gr g w h).2.1 = (h : Int) := rfl
    rw [ew, if_pos (dt (by omega)), ew2, wr (by omega)]
    refine (boTurn_in k r _ _ a b x (by omega) h k o (Nat.le_refl _) (by omega) (by omega)).trans ?_
    refine (boTurn_loop k hk r _ a b d n (x + 1) (o ++ colD g x h) (by omega) (by omega) (by rw [List.length_append, colD_len]; omega)).trans ?_
    simp [trnF]
theorem boTurn_is (k : Nat) (hk : 2097152 ≤ k) {g : List (List Int)} {w h : Nat} (r : Rc g w h) : sp_boTurn k (gr g w h) = some (gr (trnF g h 0 w) h w) := by
  have w7 := r.w7; have hfl := r.flat
  exact (boTurn_loop k hk r _ (h : Int) (w : Int) w k 0 [] (by omega) (by omega) (by simp; omega)).trans (by simp [gr])
end Ev
/- loop.example/g01207/spec.NeedlessWalls -/
namespace Ev
open Go Go.Proofs
/-! spec.NeedlessWalls -/
@[reducible] def sp_NeedlessWalls_l7_L : List (Nat × Sh) := [(1, (.bx 33 (.v tPuzzle))), (5, (.v I)), (7, (.bx 66 (.v tboGrid))), (9, (.o 3 I)), (32, (.v (.sl (.i .u8)))), (33, (.v I)), (34, (.v I))]
def sp_NeedlessWalls_l7s (k : Nat) (g_l7 : tPuzzle.in → Int → tboGrid.in → (List Int) → (List Int) → Int → Int → Option ((List Int) × (Bool × Unit))) (x1 : tPuzzle.in) (x5 : Int) (x7 : tboGrid.in) (x9 : (List Int)) (x32 : (List Int)) (x33 : Int) (x34 : Int) : Option ((List Int) × (Bool × Unit)) :=
  if (decide (x34 < x33)) = true then
    inb x34 x32.length (
      if (!decide ((rdT (.i .u8) x32 x34) = (35 : Int))) = true then
        g_l7 x1 x5 x7 x9 x32 x33 (IntKind.i64.wrap (x34 + (1 : Int)))
      else
        if ([] : List Int).length + x7.2.2.1.length ≤ 17179869184 then (
          inb x34 (([] : List Int) ++ x7.2.2.1).length (
            (sp_boText k (x7.1, x7.2.1, ((([] : List Int) ++ x7.2.2.1).set (x34).toNat (46 : Int)), ())).bind fun r3 =>
            (sp_puStates k (r3, x1.2)).bind fun r4 =>
            if r4.2.2.1 = true then
              if (decide (r4.2.1 = x5)) = true then
                if x9.length + ([x34] : List Int).length ≤ 17179869184 then (
                  g_l7 x1 x5 x7 (x9 ++ ([x34] : List Int)) x32 x33 (IntKind.i64.wrap (x34 + (1 : Int)))) else none
              else
                g_l7 x1 x5 x7 x9 x32 x33 (IntKind.i64.wrap (x34 + (1 : Int)))
            else
              g_l7 x1 x5 x7 x9 x32 x33 (IntKind.i64.wrap (x34 + (1 : Int))))) else none)
  else
    some (x9, true, ())
def sp_NeedlessWalls_l7 (k : Nat)  : Nat → tPuzzle.in → Int → tboGrid.in → (List Int) → (List Int) → Int → Int → Option ((List Int) × (Bool × Unit))
  | 0, _, _, _, _, _, _, _ => none
  | n + 1, x1, x5, x7, x9, x32, x33, x34 => sp_NeedlessWalls_l7s k (sp_NeedlessWalls_l7 k n) x1 x5 x7 x9 x32 x33 x34
def sp_NeedlessWalls_s (k : Nat) (c_l7 : tPuzzle.in → Int → tboGrid.in → (List Int) → (List Int) → Int → Int → Option ((List Int) × (Bool × Unit))) (x0 : tPuzzle.in) : Option ((List Int) × (Bool × Unit)) :=
  (sp_puStates k x0).bind fun r1 =>
  if (!r1.2.2.1) = true then
    some (([] : List Int), false, ())
  else
    (sp_boRead k x0.1).bind fun r2 =>
    c_l7 x0 r1.2.1 r2.1 ([] : List Int) r2.1.2.2.1 (r2.1.2.2.1.length : Int) (0 : Int)
def sp_NeedlessWalls (k : Nat) (x0 : tPuzzle.in) : Option ((List Int) × (Bool × Unit)) := sp_NeedlessWalls_s k (sp_NeedlessWalls_l7 k k) x0
noncomputable def sp_NeedlessWalls_O (k : Nat) : Orc := { ps := [.v tPuzzle], rt := (.pr (.o 3 I) (.pr (.v T.b) .un)), F := fun x => sp_NeedlessWalls k x.1 }
noncomputable def sp_NeedlessWalls_E (k : Nat) : Env := { ty := tabTy Tryd_tab, ds := tabDs Tryd_tab, rounds := k, nt := 76, orc := fun g => if Nat.beq g 44 = true then some (sp_boRead_O k) else (if Nat.beq g 46 = true then some (sp_boText_O k) else (if Nat.beq g 68 = true then some (sp_puStates_O k) else (none))), lp := fun i => if Nat.beq i 7 = true then some sp_NeedlessWalls_l7_L else (none), ct := fun _ => none, plan := fun i => if Nat.beq i 10 = true then some [(0, []), (1, []), (2, []), (3, []), (5, []), (6, []), (4, [9]), (7, [9]), (8, []), (9, []), (10, [])] else (none) }
noncomputable def sp_NeedlessWalls_fin (k : Nat) : Kn ((List Int) × (Bool × Unit)) := finish (sp_NeedlessWalls_E k) [.v tPuzzle] (.pr (.o 3 I) (.pr (.v T.b) .un)) Tryd.f30.results.toList
noncomputable def sp_NeedlessWalls_l7_e (k : Nat)  (n : Nat) (x1 : tPuzzle.in) (x5 : Int) (x7 : tboGrid.in) (x9 : (List Int)) (x32 : (List Int)) (x33 : Int) (x34 : Int) : Option ((List Int) × (Bool × Unit)) := loopF (sp_NeedlessWalls_E k) sp_NeedlessWalls_l7_L (ev (sp_NeedlessWalls_E k) (sub (bodyOf Tryd.f30) [.r, .r, .r, .r, .r, .l, .r, .c, .c])) (kont (sp_NeedlessWalls_E k) (bodyOf Tryd.f30) [.r, .r, .r, .r, .r, .l, .r, .c] [] (sp_NeedlessWalls_fin k)) n (x1, x5, x7, x9, x32, x33, x34, ())
theorem sp_NeedlessWalls_l7_z (k : Nat)  (x1 : tPuzzle.in) (x5 : Int) (x7 : tboGrid.in) (x9 : (List Int)) (x32 : (List Int)) (x33 : Int) (x34 : Int) : sp_NeedlessWalls_l7_e k 0 x1 x5 x7 x9 x32 x33 x34 = none := by kernel_rfl
theorem sp_NeedlessWalls_l7_st (k : Nat)  (n : Nat) (x1 : tPuzzle.in) (x5 : Int) (x7 : tboGrid.in) (x9 : (List Int)) (x32 : (List Int)) (x33 : Int) (x34 : Int) : sp_NeedlessWalls_l7_e k (n + 1) x1 x5 x7 x9 x32 x33 x34 = sp_NeedlessWalls_l7s k (sp_NeedlessWalls_l7_e k n) x1 x5 x7 x9 x32 x33 x34 := by kernel_rfl
theorem sp_NeedlessWalls_l7_ev (k : Nat)  : ∀ (n : Nat) (x1 : tPuzzle.in) (x5 : Int) (x7 : tboGrid.in) (x9 : (List Int)) (x32 : (List Int)) (x33 : Int) (x34 : Int), sp_NeedlessWalls_l7_e k n x1 x5 x7 x9 x32 x33 x34 = sp_NeedlessWalls_l7 k n x1 x5 x7 x9 x32 x33 x34
  | 0, x1, x5, x7, x9, x32, x33, x34 => sp_NeedlessWalls_l7_z k x1 x5 x7 x9 x32 x33 x34
  | n + 1, x1, x5, x7, x9, x32, x33, x34 => by
    have ih : (sp_NeedlessWalls_l7_e k n) = sp_NeedlessWalls_l7 k n := by funext y0 y1 y2 y3 y4 y5 y6; exact sp_NeedlessWalls_l7_ev k n y0 y1 y2 y3 y4 y5 y6
    rw [sp_NeedlessWalls_l7_st, ih]; rfl
theorem sp_NeedlessWalls_st (k : Nat) (x0 : tPuzzle.in) : evFun (sp_NeedlessWalls_E k) [.v tPuzzle] (.pr (.o 3 I) (.pr (.v T.b) .un)) Tryd.f30 (x0, ()) = sp_NeedlessWalls_s k (sp_NeedlessWalls_l7_e k k) x0 := by kernel_rfl
theorem sp_NeedlessWalls_ev (k : Nat) (x0 : tPuzzle.in) : evFun (sp_NeedlessWalls_E k) [.v tPuzzle] (.pr (.o 3 I) (.pr (.v T.b) .un)) Tryd.f30 (x0, ()) = sp_NeedlessWalls k x0 := by
  have h0 : (sp_NeedlessWalls_l7_e k k) = (sp_NeedlessWalls_l7 k k) := by funext y0 y1 y2 y3 y4 y5 y6; exact sp_NeedlessWalls_l7_ev k k y0 y1 y2 y3 y4 y5 y6
  rw [sp_NeedlessWalls_st, h0]; rfl
theorem sp_NeedlessWalls_c (k : Nat) : Contract Tryd.prog 30 (sp_NeedlessWalls_O k) :=
  fun_sound (c := bodyOf Tryd.f30) (tab_ok Tryd_tab_ok rfl rfl) (orc_cons (sp_boRead_c k) (orc_cons (sp_boText_c k) (orc_cons (sp_puStates_c k) orc_nil))) Tryd.func30 (by kernel_rfl) rfl (by kernel_rfl) (by decide) rfl rfl (by kernel_rfl) (by kernel_rfl) (by kernel_rfl) (fun x _ h => (sp_NeedlessWalls_ev k x.1).trans h)
end Ev
/- (loop.example/g01207/impl.Puzzle).length -/
namespace Ev
open Go Go.Proofs
/-! (impl.Puzzle).length -/
def im_Puzzle_length_s (k : Nat) (x0 : tPuzzle.in) : Option (Int × (Bool × Unit)) :=
  (im_SolutionOf k x0).bind fun r1 =>
  some ((r1.1.length : Int), r1.2.1, ())
def im_Puzzle_length (k : Nat) (x0 : tPuzzle.in) : Option (Int × (Bool × Unit)) := im_Puzzle_length_s k x0
noncomputable def im_Puzzle_length_O (k : Nat) : Orc := { ps := [.v tPuzzle], rt := (.pr (.v I) (.pr (.v T.b) .un)), F := fun x => im_Puzzle_length k x.1 }
noncomputable def im_Puzzle_length_E (k : Nat) : Env := { ty := tabTy Tryd_tab, ds := tabDs Tryd_tab, rounds := k, nt := 14, orc := fun g => if Nat.beq g 111 = true then some (im_SolutionOf_O k) else (none), lp := fun _ => none, ct := fun _ => none, plan := fun _ => none }
noncomputable def im_Puzzle_length_fin (k : Nat) : Kn (Int × (Bool × Unit)) := finish (im_Puzzle_length_E k) [.v tPuzzle] (.pr (.v I) (.pr (.v T.b) .un)) Tryd.f69.results.toList
theorem im_Puzzle_length_st (k : Nat) (x0 : tPuzzle.in) : evFun (im_Puzzle_length_E k) [.v tPuzzle] (.pr (.v I) (.pr (.v T.b) .un)) Tryd.f69 (x0, ()) = im_Puzzle_length_s k x0 := by kernel_rfl
theorem im_Puzzle_length_ev (k : Nat) (x0 : tPuzzle.in) : evFun (im_Puzzle_length_E k) [.v tPuzzle] (.pr (.v I) (.pr (.v T.b) .un)) Tryd.f69 (x0, ()) = im_Puzzle_length k x0 := by
  skip
  rw [im_Puzzle_length_st]; rfl
theorem im_Puzzle_length_c (k : Nat) : Contract Tryd.prog 69 (im_Puzzle_length_O k) :=
  fun_sound (c := bodyOf Tryd.f69) (tab_ok Tryd_tab_ok rfl rfl) (orc_cons (im_SolutionOf_c k) orc_nil) Tryd.func69 (by kernel_rfl) rfl (by kernel_rfl) (by decide) rfl rfl (by kernel_rfl) (by kernel_rfl) (by kernel_rfl) (fun x _ h => (im_Puzzle_length_ev k x.1).trans h)
end Ev
/- loop.example/g01207/impl.NeedlessWalls -/
namespace Ev
open Go Go.Proofs
/-! impl.NeedlessWalls -/
@[reducible] def im_NeedlessWalls_l10_L : List (Nat × Sh) := [(1, (.bx 33 (.v tPuzzle))), (4, (.v I)), (6, (.v (.sl T.s))), (8, (.o 3 I)), (9, (.v I)), (10, (.v I)), (35, (.v I)), (36, (.v I)), (39, (.v I)), (40, (.v I))]
@[reducible] def im_NeedlessWalls_l7_L : List (Nat × Sh) := [(1, (.bx 33 (.v tPuzzle))), (4, (.v I)), (6, (.v (.sl T.s))), (8, (.o 3 I)), (9, (.v I)), (35, (.v I)), (36, (.v I))]
def im_NeedlessWalls_l10s (k : Nat) (g_l7 : tPuzzle.in → Int → (List (List Int)) → (List Int) → Int → Int → Int → Option ((List Int) × (Bool × Unit))) (g_l10 : tPuzzle.in → Int → (List (List Int)) → (List Int) → Int → Int → Int → Int → Int → Int → Option ((List Int) × (Bool × Unit))) (x1 : tPuzzle.in) (x4 : Int) (x6 : (List (List Int))) (x8 : (List Int)) (x9 : Int) (x10 : Int) (x35 : Int) (x36 : Int) (x39 : Int) (x40 : Int) : Option ((List Int) × (Bool × Unit)) :=
  if (decide (x40 < x39)) = true then
    (im_grid_at k x6 x40 x10).bind fun r3 =>
    if (!decide (r3 = (35 : Int))) = true then
      g_l10 x1 x4 x6 x8 x9 x10 x35 x36 x39 (IntKind.i64.wrap (x40 + (1 : Int)))
    else
      if x1.1.length ≤ 17179869184 then (
        inb (IntKind.i64.wrap ((IntKind.i64.wrap (x10 * (IntKind.i64.wrap (x9 + (1 : Int))))) + x40)) x1.1.length (
          (im_Puzzle_length k ((x1.1.set ((IntKind.i64.wrap ((IntKind.i64.wrap (x10 * (IntKind.i64.wrap (x9 + (1 : Int))))) + x40))).toNat (46 : Int)), x1.2)).bind fun r4 =>
          if r4.2.1 = true then
            if (decide (r4.1 = x4)) = true then
              if x8.length + ([(IntKind.i64.wrap ((IntKind.i64.wrap (x10 * x9)) + x40))] : List Int).length ≤ 17179869184 then (
                g_l10 x1 x4 x6 (x8 ++ ([(IntKind.i64.wrap ((IntKind.i64.wrap (x10 * x9)) + x40))] : List Int)) x9 x10 x35 x36 x39 (IntKind.i64.wrap (x40 + (1 : Int)))) else none
            else
              g_l10 x1 x4 x6 x8 x9 x10 x35 x36 x39 (IntKind.i64.wrap (x40 + (1 : Int)))
          else
            g_l10 x1 x4 x6 x8 x9 x10 x35 x36 x39 (IntKind.i64.wrap (x40 + (1 : Int))))) else none
  else
    g_l7 x1 x4 x6 x8 x9 x35 (IntKind.i64.wrap (x36 + (1 : Int)))
def im_NeedlessWalls_l10 (k : Nat) (g_l7 : tPuzzle.in → Int → (List (List Int)) → (List Int) → Int → Int → Int → Option ((List Int) × (Bool × Unit))) : Nat → tPuzzle.in → Int → (List (List Int)) → (List Int) → Int → Int → Int → Int → Int → Int → Option ((List Int) × (Bool × Unit))
  | 0, _, _, _, _, _, _, _, _, _, _ => none
  | n + 1, x1, x4, x6, x8, x9, x10, x35, x36, x39, x40 => im_NeedlessWalls_l10s k g_l7 (im_NeedlessWalls_l10 k g_l7 n) x1 x4 x6 x8 x9 x10 x35 x36 x39 x40
def im_NeedlessWalls_l7s (_k : Nat) (c_l10 : (tPuzzle.in → Int → (List (List Int)) → (List Int) → Int → Int → Int → Option ((List Int) × (Bool × Unit))) → tPuzzle.in → Int → (List (List Int)) → (List Int) → Int → Int → Int → Int → Int → Int → Option ((List Int) × (Bool × Unit))) (g_l7 : tPuzzle.in → Int → (List (List Int)) → (List Int) → Int → Int → Int → Option ((List Int) × (Bool × Unit))) (x1 : tPuzzle.in) (x4 : Int) (x6 : (List (List Int))) (x8 : (List Int)) (x9 : Int) (x35 : Int) (x36 : Int) : Option ((List Int) × (Bool × Unit)) :=
  if (decide (x36 < x35)) = true then
    c_l10 g_l7 x1 x4 x6 x8 x9 x36 x35 x36 x9 (0 : Int)
  else
    some (x8, true, ())
def im_NeedlessWalls_l7 (k : Nat)  : Nat → tPuzzle.in → Int → (List (List Int)) → (List Int) → Int → Int → Int → Option ((List Int) × (Bool × Unit))
  | 0, _, _, _, _, _, _, _ => none
  | n + 1, x1, x4, x6, x8, x9, x35, x36 => im_NeedlessWalls_l7s k (fun g0 => im_NeedlessWalls_l10 k g0 k) (im_NeedlessWalls_l7 k n) x1 x4 x6 x8 x9 x35 x36
def im_NeedlessWalls_s (k : Nat) (c_l7 : tPuzzle.in → Int → (List (List Int)) → (List Int) → Int → Int → Int → Option ((List Int) × (Bool × Unit))) (x0 : tPuzzle.in) : Option ((List Int) × (Bool × Unit)) :=
  (im_Puzzle_length k x0).bind fun r1 =>
  if (!r1.2.1) = true then
    some (([] : List Int), false, ())
  else
    (im_board k x0.1).bind fun r2 =>
    inb (0 : Int) r2.1.length (
      c_l7 x0 r1.1 r2.1 ([] : List Int) ((rdT T.s r2.1 (0 : Int)).length : Int) (r2.1.length : Int) (0 : Int))
def im_NeedlessWalls (k : Nat) (x0 : tPuzzle.in) : Option ((List Int) × (Bool × Unit)) := im_NeedlessWalls_s k (im_NeedlessWalls_l7 k k) x0
noncomputable def im_NeedlessWalls_O (k : Nat) : Orc := { ps := [.v tPuzzle], rt := (.pr (.o 3 I) (.pr (.v T.b) .un)), F := fun x => im_NeedlessWalls k x.1 }
noncomputable def im_NeedlessWalls_E (k : Nat) : Env := { ty := tabTy Tryd_tab, ds := tabDs Tryd_tab, rounds := k, nt := 85, orc := fun g => if Nat.beq g 49 = true then some (im_board_O k) else (if Nat.beq g 69 = true then some (im_Puzzle_length_O k) else (if Nat.beq g 70 = true then some (im_grid_at_O k) else (none))), lp := fun i => if Nat.beq i 7 = true then some im_NeedlessWalls_l7_L else (if Nat.beq i 10 = true then some im_NeedlessWalls_l10_L else (none)), ct := fun _ => none, plan := fun i => if Nat.beq i 5 = true then some [(1, []), (2, []), (3, []), (4, []), (0, []), (5, []), (6, [])] else (none) }
noncomputable def im_NeedlessWalls_fin (k : Nat) : Kn ((List Int) × (Bool × Unit)) := finish (im_NeedlessWalls_E k) [.v tPuzzle] (.pr (.o 3 I) (.pr (.v T.b) .un)) Tryd.f31.results.toList
noncomputable def im_NeedlessWalls_l10_e (k : Nat) (g_l7 : tPuzzle.in → Int → (List (List Int)) → (List Int) → Int → Int → Int → Option ((List Int) × (Bool × Unit))) (n : Nat) (x1 : tPuzzle.in) (x4 : Int) (x6 : (List (List Int))) (x8 : (List Int)) (x9 : Int) (x10 : Int) (x35 : Int) (x36 : Int) (x39 : Int) (x40 : Int) : Option ((List Int) × (Bool × Unit)) := loopF (im_NeedlessWalls_E k) im_NeedlessWalls_l10_L (ev (im_NeedlessWalls_E k) (sub (bodyOf Tryd.f31) [.r, .r, .r, .r, .r, .l, .r, .c, .c, .r, .r, .l, .c, .r, .r, .c, .c])) (kont (im_NeedlessWalls_E k) (bodyOf Tryd.f31) [.r, .r, .r, .r, .r, .l, .r, .c, .c, .r, .r, .l, .c, .r, .r, .c] [⟨im_NeedlessWalls_l7_L, fun d => g_l7 d.1 d.2.1 d.2.2.1 d.2.2.2.1 d.2.2.2.2.1 d.2.2.2.2.2.1 d.2.2.2.2.2.2.1⟩] (im_NeedlessWalls_fin k)) n (x1, x4, x6, x8, x9, x10, x35, x36, x39, x40, ())
theorem im_NeedlessWalls_l10_z (k : Nat) (g_l7 : tPuzzle.in → Int → (List (List Int)) → (List Int) → Int → Int → Int → Option ((List Int) × (Bool × Unit))) (x1 : tPuzzle.in) (x4 : Int) (x6 : (List (List Int))) (x8 : (List Int)) (x9 : Int) (x10 : Int) (x35 : Int) (x36 : Int) (x39 : Int) (x40 : Int) : im_NeedlessWalls_l10_e k g_l7 0 x1 x4 x6 x8 x9 x10 x35 x36 x39 x40 = none := by kernel_rfl
theorem im_NeedlessWalls_l10_st (k : Nat) (g_l7 : tPuzzle.in → Int → (List (List Int)) → (List Int) → Int → Int → Int → Option ((List Int) × (Bool × Unit))) (n : Nat) (x1 : tPuzzle.in) (x4 : Int) (x6 : (List (List Int))) (x8 : (List Int)) (x9 : Int) (x10 : Int) (x35 : Int) (x36 : Int) (x39 : Int) (x40 : Int) : im_NeedlessWalls_l10_e k g_l7 (n + 1) x1 x4 x6 x8 x9 x10 x35 x36 x39 x40 = im_NeedlessWalls_l10s k g_l7 (im_NeedlessWalls_l10_e k g_l7 n) x1 x4 x6 x8 x9 x10 x35 x36 x39 x40 := by kernel_rfl
theorem im_NeedlessWalls_l10_ev (k : Nat) (g_l7 : tPuzzle.in → Int → (List (List Int)) → (List Int) → Int → Int → Int → Option ((List Int) × (Bool × Unit))) : ∀ (n : Nat) (x1 : tPuzzle.in) (x4 : Int) (x6 : (List (List Int))) (x8 : (List Int)) (x9 : Int) (x10 : Int) (x35 : Int) (x36 : Int) (x39 : Int) (x40 : Int), im_NeedlessWalls_l10_e k g_l7 n x1 x4 x6 x8 x9 x10 x35 x36 x39 x40 = im_NeedlessWalls_l10 k g_l7 n x1 x4 x6 x8 x9 x10 x35 x36 x39 x40
  | 0, x1, x4, x6, x8, x9, x10, x35, x36, x39, x40 => im_NeedlessWalls_l10_z k g_l7 x1 x4 x6 x8 x9 x10 x35 x36 x39 x40
  | n + 1, x1, x4, x6, x8, x9, x10, x35, x36, x39, x40 => by
    have ih : (im_NeedlessWalls_l10_e k g_l7 n) = im_NeedlessWalls_l10 k g_l7 n := by funext y0 y1 y2 y3 y4 y5 y6 y7 y8 y9; exact im_NeedlessWalls_l10_ev k g_l7 n y0 y1 y2 y3 y4 y5 y6 y7 y8 y9
    rw [im_NeedlessWalls_l10_st, ih]; rfl
noncomputable def im_NeedlessWalls_l7_e (k : Nat)  (n : Nat) (x1 : tPuzzle.in) (x4 : Int) (x6 : (List (List Int))) (x8 : (List Int)) (x9 : Int) (x35 : Int) (x36 : Int) : Option ((List Int) × (Bool × Unit)) := loopF (im_NeedlessWalls_E k) im_NeedlessWalls_l7_L (ev (im_NeedlessWalls_E k) (sub (bodyOf Tryd.f31) [.r, .r, .r, .r, .r, .l, .r, .c, .c])) (kont (im_NeedlessWalls_E k) (bodyOf Tryd.f31) [.r, .r, .r, .r, .r, .l, .r, .c] [] (im_NeedlessWalls_fin k)) n (x1, x4, x6, x8, x9, x35, x36, ())
theorem im_NeedlessWalls_l7_z (k : Nat)  (x1 : tPuzzle.in) (x4 : Int) (x6 : (List (List Int))) (x8 : (List Int)) (x9 : Int) (x35 : Int) (x36 : Int) : im_NeedlessWalls_l7_e k 0 x1 x4 x6 x8 x9 x35 x36 = none := by kernel_rfl
theorem im_NeedlessWalls_l7_st (k : Nat)  (n : Nat) (x1 : tPuzzle.in) (x4 : Int) (x6 : (List (List Int))) (x8 : (List Int)) (x9 : Int) (x35 : Int) (x36 : Int) : im_NeedlessWalls_l7_e k (n + 1) x1 x4 x6 x8 x9 x35 x36 = im_NeedlessWalls_l7s k (fun g0 => im_NeedlessWalls_l10_e k g0 k) (im_NeedlessWalls_l7_e k n) x1 x4 x6 x8 x9 x35 x36 := by kernel_rfl
theorem im_NeedlessWalls_l7_ev (k : Nat)  : ∀ (n : Nat) (x1 : tPuzzle.in) (x4 : Int) (x6 : (List (List Int))) (x8 : (List Int)) (x9 : Int) (x35 : Int) (x36 : Int), im_NeedlessWalls_l7_e k n x1 x4 x6 x8 x9 x35 x36 = im_NeedlessWalls_l7 k n x1 x4 x6 x8 x9 x35 x36
  | 0, x1, x4, x6, x8, x9, x35, x36 => im_NeedlessWalls_l7_z k x1 x4 x6 x8 x9 x35 x36
  | n + 1, x1, x4, x6, x8, x9, x35, x36 => by
    have h0 : (fun g0 => im_NeedlessWalls_l10_e k g0 k) = (fun g0 => im_NeedlessWalls_l10 k g0 k) := by funext g0 y0 y1 y2 y3 y4 y5 y6 y7 y8 y9; exact im_NeedlessWalls_l10_ev k g0 k y0 y1 y2 y3 y4 y5 y6 y7 y8 y9
    have ih : (im_NeedlessWalls_l7_e k n) = im_NeedlessWalls_l7 k n := by funext y0 y1 y2 y3 y4 y5 y6; exact im_NeedlessWalls_l7_ev k n y0 y1 y2 y3 y4 y5 y6
    rw [im_NeedlessWalls_l7_st, h0, ih]; rfl
theorem im_NeedlessWalls_st (k : Nat) (x0 : tPuzzle.in) : evFun (im_NeedlessWalls_E k) [.v tPuzzle] (.pr (.o 3 I) (.pr (.v T.b) .un)) Tryd.f31 (x0, ()) = im_NeedlessWalls_s k (im_NeedlessWalls_l7_e k k) x0 := by kernel_rfl
theorem im_NeedlessWalls_ev (k : Nat) (x0 : tPuzzle.in) : evFun (im_NeedlessWalls_E k) [.v tPuzzle] (.pr (.o 3 I) (.pr (.v T.b) .un)) Tryd.f31 (x0, ()) = im_NeedlessWalls k x0 := by
  have h0 : (im_NeedlessWalls_l7_e k k) = (im_NeedlessWalls_l7 k k) := by funext y0 y1 y2 y3 y4 y5 y6; exact im_NeedlessWalls_l7_ev k k y0 y1 y2 y3 y4 y5 y6
  rw [im_NeedlessWalls_st, h0]; rfl
theorem im_NeedlessWalls_c (k : Nat) : Contract Tryd.prog 31 (im_NeedlessWalls_O k) :=
  fun_sound (c := bodyOf Tryd.f31) (tab_ok Tryd_tab_ok rfl rfl) (orc_cons (im_board_c k) (orc_cons (im_Puzzle_length_c k) (orc_cons (im_grid_at_c k) orc_nil))) Tryd.func31 (by kernel_rfl) rfl (by kernel_rfl) (by decide) rfl rfl (by kernel_rfl) (by kernel_rfl) (by kernel_rfl) (fun x _ h => (im_NeedlessWalls_ev k x.1).trans h)
end Ev
/- loop.example/g01207/laws.eqIntS -/
namespace Ev
open Go Go.Proofs
/-! laws.eqIntS -/
@[reducible] def la_eqIntS_l4_L : List (Nat × Sh) := [(0, (.v (.sl I))), (1, (.v (.sl I))), (5, (.v I))]
def la_eqIntS_l4s (_k : Nat) (g_l4 : (List Int) → (List Int) → Int → Option Bool) (x0 : (List Int)) (x1 : (List Int)) (x5 : Int) : Option Bool :=
  if (decide (x5 < (x0.length : Int))) = true then
    inb x5 x0.length (
      inb x5 x1.length (
        if (!decide ((rdT I x0 x5) = (rdT I x1 x5))) = true then
          some false
        else
          g_l4 x0 x1 (IntKind.i64.wrap (x5 + (1 : Int)))))
  else
    some true
def la_eqIntS_l4 (k : Nat)  : Nat → (List Int) → (List Int) → Int → Option Bool
  | 0, _, _, _ => none
  | n + 1, x0, x1, x5 => la_eqIntS_l4s k (la_eqIntS_l4 k n) x0 x1 x5
def la_eqIntS_s (_k : Nat) (c_l4 : (List Int) → (List Int) → Int → Option Bool) (x0 : (List Int)) (x1 : (List Int)) : Option Bool :=
  if (!decide ((x0.length : Int) = (x1.length : Int))) = true then
    some false
  else
    c_l4 x0 x1 (0 : Int)
def la_eqIntS (k : Nat) (x0 : (List Int)) (x1 : (List Int)) : Option Bool := la_eqIntS_s k (la_eqIntS_l4 k k) x0 x1
noncomputable def la_eqIntS_O (k : Nat) : Orc := { ps := [.v (.sl I), .v (.sl I)], rt := (.v T.b), F := fun x => la_eqIntS k x.1 x.2.1 }
noncomputable def la_eqIntS_E (k : Nat) : Env := { ty := tabTy Tryd_tab, ds := tabDs Tryd_tab, rounds := k, nt := 26, orc := fun _ => none, lp := fun i => if Nat.beq i 4 = true then some la_eqIntS_l4_L else (none), ct := fun _ => none, plan := fun i => if Nat.beq i 6 = true then some [(0, []), (1, []), (2, []), (3, []), (4, []), (5, []), (6, []), (7, []), (8, [])] else (none) }
noncomputable def la_eqIntS_fin (k : Nat) : Kn Bool := finish (la_eqIntS_E k) [.v (.sl I), .v (.sl I)] (.v T.b) Tryd.f32.results.toList
noncomputable def la_eqIntS_l4_e (k : Nat)  (n : Nat) (x0 : (List Int)) (x1 : (List Int)) (x5 : Int) : Option Bool := loopF (la_eqIntS_E k) la_eqIntS_l4_L (ev (la_eqIntS_E k) (sub (bodyOf Tryd.f32) [.r, .r, .l, .r, .c, .c])) (kont (la_eqIntS_E k) (bodyOf Tryd.f32) [.r, .r, .l, .r, .c] [] (la_eqIntS_fin k)) n (x0, x1, x5, ())
theorem la_eqIntS_l4_z (k : Nat)  (x0 : (List Int)) (x1 : (List Int)) (x5 : Int) : la_eqIntS_l4_e k 0 x0 x1 x5 = none := by kernel_rfl
theorem la_eqIntS_l4_st (k : Nat)  (n : Nat) (x0 : (List Int)) (x1 : (List Int)) (x5 : Int) : la_eqIntS_l4_e k (n + 1) x0 x1 x5 = la_eqIntS_l4s k (la_eqIntS_l4_e k n) x0 x1 x5 := by kernel_rfl
theorem la_eqIntS_l4_ev (k : Nat)  : ∀ (n : Nat) (x0 : (List Int)) (x1 : (List Int)) (x5 : Int), la_eqIntS_l4_e k n x0 x1 x5 = la_eqIntS_l4 k n x0 x1 x5
  | 0, x0, x1, x5 => la_eqIntS_l4_z k x0 x1 x5
  | n + 1, x0, x1, x5 => by
    have ih : (la_eqIntS_l4_e k n) = la_eqIntS_l4 k n := by funext y0 y1 y2; exact la_eqIntS_l4_ev k n y0 y1 y2
    rw [la_eqIntS_l4_st, ih]; rfl
theorem la_eqIntS_st (k : Nat) (x0 : (List Int)) (x1 : (List Int)) : evFun (la_eqIntS_E k) [.v (.sl I), .v (.sl I)] (.v T.b) Tryd.f32 (x0, x1, ()) = la_eqIntS_s k (la_eqIntS_l4_e k k) x0 x1 := by kernel_rfl
theorem la_eqIntS_ev (k : Nat) (x0 : (List Int)) (x1 : (List Int)) : evFun (la_eqIntS_E k) [.v (.sl I), .v (.sl I)] (.v T.b) Tryd.f32 (x0, x1, ()) = la_eqIntS k x0 x1 := by
  have h0 : (la_eqIntS_l4_e k k) = (la_eqIntS_l4 k k) := by funext y0 y1 y2; exact la_eqIntS_l4_ev k k y0 y1 y2
  rw [la_eqIntS_st, h0]; rfl
theorem la_eqIntS_c (k : Nat) : Contract Tryd.prog 32 (la_eqIntS_O k) :=
  fun_sound (c := bodyOf Tryd.f32) (tab_ok Tryd_tab_ok rfl rfl) orc_nil Tryd.func32 (by kernel_rfl) rfl (by kernel_rfl) (by decide) rfl rfl (by kernel_rfl) (by kernel_rfl) (by kernel_rfl) (fun x _ h => (la_eqIntS_ev k x.1 x.2.1).trans h)
end Ev
/- loop.example/g01207/laws.markIntS -/
namespace Ev
open Go Go.Proofs
/-! laws.markIntS -/
@[reducible] def la_markIntS_l2_L : List (Nat × Sh) := [(0, (.o 3 I)), (1, (.v I)), (5, (.v I))]
def la_markIntS_l2s (_k : Nat) (g_l2 : (List Int) → Int → Int → Option (Int × (List Int))) (x0 : (List Int)) (x1 : Int) (x5 : Int) : Option (Int × (List Int)) :=
  if (decide (x5 < (x0.length : Int))) = true then
    inb x5 x0.length (
      g_l2 (x0.set (x5).toNat x1) (IntKind.i64.wrap (x1 + (1 : Int))) (IntKind.i64.wrap (x5 + (1 : Int))))
  else
    some (x1, x0)
def la_markIntS_l2 (k : Nat)  : Nat → (List Int) → Int → Int → Option (Int × (List Int))
  | 0, _, _, _ => none
  | n + 1, x0, x1, x5 => la_markIntS_l2s k (la_markIntS_l2 k n) x0 x1 x5
def la_markIntS_s (_k : Nat) (c_l2 : (List Int) → Int → Int → Option (Int × (List Int))) (x0 : (List Int)) (x1 : Int) : Option (Int × (List Int)) :=
  c_l2 x0 x1 (0 : Int)
def la_markIntS (k : Nat) (x0 : (List Int)) (x1 : Int) : Option (Int × (List Int)) := la_markIntS_s k (la_markIntS_l2 k k) x0 x1
noncomputable def la_markIntS_O (k : Nat) : Orc := { ps := [.io 3 I, .v I], rt := (.v I), F := fun x => la_markIntS k x.1 x.2.1 }
noncomputable def la_markIntS_E (k : Nat) : Env := { ty := tabTy Tryd_tab, ds := tabDs Tryd_tab, rounds := k, nt := 19, orc := fun _ => none, lp := fun i => if Nat.beq i 2 = true then some la_markIntS_l2_L else (none), ct := fun _ => none, plan := fun _ => none }
noncomputable def la_markIntS_fin (k : Nat) : Kn (Int × (List Int)) := finish (la_markIntS_E k) [.io 3 I, .v I] (.v I) Tryd.f33.results.toList
noncomputable def la_markIntS_l2_e (k : Nat)  (n : Nat) (x0 : (List Int)) (x1 : Int) (x5 : Int) : Option (Int × (List Int)) := loopF (la_markIntS_E k) la_markIntS_l2_L (ev (la_markIntS_E k) (sub (bodyOf Tryd.f33) [.r, .l, .r, .c, .c])) (kont (la_markIntS_E k) (bodyOf Tryd.f33) [.r, .l, .r, .c] [] (la_markIntS_fin k)) n (x0, x1, x5, ())
theorem la_markIntS_l2_z (k : Nat)  (x0 : (List Int)) (x1 : Int) (x5 : Int) : la_markIntS_l2_e k 0 x0 x1 x5 = none := by kernel_rfl
theorem la_markIntS_l2_st (k : Nat)  (n : Nat) (x0 : (List Int)) (x1 : Int) (x5 : Int) : la_markIntS_l2_e k (n + 1) x0 x1 x5 = la_markIntS_l2s k (la_markIntS_l2_e k n) x0 x1 x5 := by kernel_rfl
theorem la_markIntS_l2_ev (k : Nat)  : ∀ (n : Nat) (x0 : (List Int)) (x1 : Int) (x5 : Int), la_markIntS_l2_e k n x0 x1 x5 = la_markIntS_l2 k n x0 x1 x5
  | 0, x0, x1, x5 => la_markIntS_l2_z k x0 x1 x5
  | n + 1, x0, x1, x5 => by
    have ih : (la_markIntS_l2_e k n) = la_markIntS_l2 k n := by funext y0 y1 y2; exact la_markIntS_l2_ev k n y0 y1 y2
    rw [la_markIntS_l2_st, ih]; rfl
theorem la_markIntS_st (k : Nat) (x0 : (List Int)) (x1 : Int) : evFun (la_markIntS_E k) [.io 3 I, .v I] (.v I) Tryd.f33 (x0, x1, ()) = la_markIntS_s k (la_markIntS_l2_e k k) x0 x1 := by kernel_rfl
theorem la_markIntS_ev (k : Nat) (x0 : (List Int)) (x1 : Int) : evFun (la_markIntS_E k) [.io 3 I, .v I] (.v I) Tryd.f33 (x0, x1, ()) = la_markIntS k x0 x1 := by
  have h0 : (la_markIntS_l2_e k k) = (la_markIntS_l2 k k) := by funext y0 y1 y2; exact la_markIntS_l2_ev k k y0 y1 y2
  rw [la_markIntS_st, h0]; rfl
theorem la_markIntS_c (k : Nat) : Contract Tryd.prog 33 (la_markIntS_O k) :=
  fun_sound (c := bodyOf Tryd.f33) (tab_ok Tryd_tab_ok rfl rfl) orc_nil Tryd.func33 (by kernel_rfl) rfl (by kernel_rfl) (by decide) rfl rfl (by kernel_rfl) (by kernel_rfl) (by kernel_rfl) (fun x _ h => (la_markIntS_ev k x.1 x.2.1).trans h)
end Ev
/- loop.example/g01207/laws.heldIntS -/
namespace Ev
open Go Go.Proofs
/-! laws.heldIntS -/
@[reducible] def la_heldIntS_l2_L : List (Nat × Sh) := [(0, (.v (.sl I))), (1, (.v I)), (5, (.v I))]
def la_heldIntS_l2s (_k : Nat) (g_l2 : (List Int) → Int → Int → Option Int) (x0 : (List Int)) (x1 : Int) (x5 : Int) : Option Int :=
  if (decide (x5 < (x0.length : Int))) = true then
    inb x5 x0.length (
      if (!decide ((rdT I x0 x5) = x1)) = true then
        some (-1 : Int)
      else
        g_l2 x0 (IntKind.i64.wrap (x1 + (1 : Int))) (IntKind.i64.wrap (x5 + (1 : Int))))
  else
    some x1
def la_heldIntS_l2 (k : Nat)  : Nat → (List Int) → Int → Int → Option Int
  | 0, _, _, _ => none
  | n + 1, x0, x1, x5 => la_heldIntS_l2s k (la_heldIntS_l2 k n) x0 x1 x5
def la_heldIntS_s (_k : Nat) (c_l2 : (List Int) → Int → Int → Option Int) (x0 : (List Int)) (x1 : Int) : Option Int :=
  c_l2 x0 x1 (0 : Int)
def la_heldIntS (k : Nat) (x0 : (List Int)) (x1 : Int) : Option Int := la_heldIntS_s k (la_heldIntS_l2 k k) x0 x1
noncomputable def la_heldIntS_O (k : Nat) : Orc := { ps := [.v (.sl I), .v I], rt := (.v I), F := fun x => la_heldIntS k x.1 x.2.1 }
noncomputable def la_heldIntS_E (k : Nat) : Env := { ty := tabTy Tryd_tab, ds := tabDs Tryd_tab, rounds := k, nt := 21, orc := fun _ => none, lp := fun i => if Nat.beq i 2 = true then some la_heldIntS_l2_L else (none), ct := fun _ => none, plan := fun _ => none }
noncomputable def la_heldIntS_fin (k : Nat) : Kn Int := finish (la_heldIntS_E k) [.v (.sl I), .v I] (.v I) Tryd.f34.results.toList
noncomputable def la_heldIntS_l2_e (k : Nat)  (n : Nat) (x0 : (List Int)) (x1 : Int) (x5 : Int) : Option Int := loopF (la_heldIntS_E k) la_heldIntS_l2_L (ev (la_heldIntS_E k) (sub (bodyOf Tryd.f34) [.r, .l, .r, .c, .c])) (kont (la_heldIntS_E k) (bodyOf Tryd.f34) [.r, .l, .r, .c] [] (la_heldIntS_fin k)) n (x0, x1, x5, ())
theorem la_heldIntS_l2_z (k : Nat)  (x0 : (List Int)) (x1 : Int) (x5 : Int) : la_heldIntS_l2_e k 0 x0 x1 x5 = none := by kernel_rfl
theorem la_heldIntS_l2_st (k : Nat)  (n : Nat) (x0 : (List Int)) (x1 : Int) (x5 : Int) : la_heldIntS_l2_e k (n + 1) x0 x1 x5 = la_heldIntS_l2s k (la_heldIntS_l2_e k n) x0 x1 x5 := by kernel_rfl
theorem la_heldIntS_l2_ev (k : Nat)  : ∀ (n : Nat) (x0 : (List Int)) (x1 : Int) (x5 : Int), la_heldIntS_l2_e k n x0 x1 x5 = la_heldIntS_l2 k n x0 x1 x5
  | 0, x0, x1, x5 => la_heldIntS_l2_z k x0 x1 x5
  | n + 1, x0, x1, x5 => by
    have ih : (la_heldIntS_l2_e k n) = la_heldIntS_l2 k n := by funext y0 y1 y2; exact la_heldIntS_l2_ev k n y0 y1 y2
    rw [la_heldIntS_l2_st, ih]; rfl
theorem la_heldIntS_st (k : Nat) (x0 : (List Int)) (x1 : Int) : evFun (la_heldIntS_E k) [.v (.sl I), .v I] (.v I) Tryd.f34 (x0, x1, ()) = la_heldIntS_s k (la_heldIntS_l2_e k k) x0 x1 := by kernel_rfl
theorem la_heldIntS_ev (k : Nat) (x0 : (List Int)) (x1 : Int) : evFun (la_heldIntS_E k) [.v (.sl I), .v I] (.v I) Tryd.f34 (x0, x1, ()) = la_heldIntS k x0 x1 := by
  have h0 : (la_heldIntS_l2_e k k) = (la_heldIntS_l2 k k) := by funext y0 y1 y2; exact la_heldIntS_l2_ev k k y0 y1 y2
  rw [la_heldIntS_st, h0]; rfl
theorem la_heldIntS_c (k : Nat) : Contract Tryd.prog 34 (la_heldIntS_O k) :=
  fun_sound (c := bodyOf Tryd.f34) (tab_ok Tryd_tab_ok rfl rfl) orc_nil Tryd.func34 (by kernel_rfl) rfl (by kernel_rfl) (by decide) rfl rfl (by kernel_rfl) (by kernel_rfl) (by kernel_rfl) (fun x _ h => (la_heldIntS_ev k x.1 x.2.1).trans h)
end Ev
/- loop.example/g01207/laws.FnExactNeedlessWalls -/
namespace Ev
open Go Go.Proofs
/-! laws.FnExactNeedlessWalls -/
def la_FnExactNeedlessWalls_s (k : Nat) (x0 : tPuzzle.in) : Option Bool :=
  (la_szPuzzle k x0 (1048576 : Int)).bind fun r1 =>
  if (decide (r1 < (0 : Int))) = true then
    some true
  else
    (la_toPuzzle k x0).bind fun r2 =>
    (sp_NeedlessWalls k r2).bind fun r3 =>
    (la_toPuzzle k x0).bind fun r4 =>
    (im_NeedlessWalls k r4).bind fun r5 =>
    (la_eqIntS k r5.1 r3.1).bind fun r6 =>
    if (!r6) = true then
      some false
    else
      if (!(decide (r5.2.1 = r3.2.1))) = true then
        some false
      else
        (la_markIntS k r5.1 (1 : Int)).bind fun r7 =>
        (la_heldIntS k r7.2 (1 : Int)).bind fun r8 =>
        if (decide (r8 < (0 : Int))) = true then
          some false
        else
          if (!decide (r8 = r7.1)) = true then
            some false
          else
            (la_toPuzzle k x0).bind fun r9 =>
            (im_NeedlessWalls k r9).bind fun r10 =>
            (la_eqIntS k r10.1 r3.1).bind fun r11 =>
            if (!r11) = true then
              some false
            else
              if (!(decide (r10.2.1 = r3.2.1))) = true then
                some false
              else
                (la_heldIntS k r7.2 (1 : Int)).bind fun r12 =>
                if (decide (r12 < (0 : Int))) = true then
                  some false
                else
                  if (!decide (r12 = r7.1)) = true then
                    some false
                  else
                    some true
def la_FnExactNeedlessWalls (k : Nat) (x0 : tPuzzle.in) : Option Bool := la_FnExactNeedlessWalls_s k x0
noncomputable def la_FnExactNeedlessWalls_O (k : Nat) : Orc := { ps := [.v tPuzzle], rt := (.v T.b), F := fun x => la_FnExactNeedlessWalls k x.1 }
noncomputable def la_FnExactNeedlessWalls_E (k : Nat) : Env := { ty := tabTy Tryd_tab, ds := tabDs Tryd_tab, rounds := k, nt := 72, orc := fun g => if Nat.beq g 13 = true then some (la_szPuzzle_O k) else (if Nat.beq g 15 = true then some (la_toPuzzle_O k) else (if Nat.beq g 30 = true then some (sp_NeedlessWalls_O k) else (if Nat.beq g 31 = true then some (im_NeedlessWalls_O k) else (if Nat.beq g 32 = true then some (la_eqIntS_O k) else (if Nat.beq g 33 = true then some (la_markIntS_O k) else (if Nat.beq g 34 = true then some (la_heldIntS_O k) else (none))))))), lp := fun _ => none, ct := fun _ => none, plan := fun _ => none }
noncomputable def la_FnExactNeedlessWalls_fin (k : Nat) : Kn Bool := finish (la_FnExactNeedlessWalls_E k) [.v tPuzzle] (.v T.b) Tryd.f8.results.toList
theorem la_FnExactNeedlessWalls_st (k : Nat) (x0 : tPuzzle.in) : evFun (la_FnExactNeedlessWalls_E k) [.v tPuzzle] (.v T.b) Tryd.f8 (x0, ()) = la_FnExactNeedlessWalls_s k x0 := by kernel_rfl
theorem la_FnExactNeedlessWalls_ev (k : Nat) (x0 : tPuzzle.in) : evFun (la_FnExactNeedlessWalls_E k) [.v tPuzzle] (.v T.b) Tryd.f8 (x0, ()) = la_FnExactNeedlessWalls k x0 := by
  skip
  rw [la_FnExactNeedlessWalls_st]; rfl
theorem la_FnExactNeedlessWalls_c (k : Nat) : Contract Tryd.prog 8 (la_FnExactNeedlessWalls_O k) :=
  fun_sound (c := bodyOf Tryd.f8) (tab_ok Tryd_tab_ok rfl rfl) (orc_cons (la_szPuzzle_c k) (orc_cons (la_toPuzzle_c k) (orc_cons (sp_NeedlessWalls_c k) (orc_cons (im_NeedlessWalls_c k) (orc_cons (la_eqIntS_c k) (orc_cons (la_markIntS_c k) (orc_cons (la_heldIntS_c k) orc_nil))))))) Tryd.func8 (by kernel_rfl) rfl (by kernel_rfl) (by decide) rfl rfl (by kernel_rfl) (by kernel_rfl) (by kernel_rfl) (fun x _ h => (la_FnExactNeedlessWalls_ev k x.1).trans h)
end Ev
/- The plain law of NeedlessWalls. -/
namespace Ev
open Go Go.Proofs
theorem jn_cons (r : List Int) (g : List (List Int)) (h : g ≠ []) : jn (r :: g) = r ++ 47 :: jn g := by
  cases g with
  | nil => exact absurd rfl h
  | cons q g => simp [jn, jnT]
theorem jn_spl : ∀ s, jn (spl s) = s
  | [] => rfl
  | c :: s => by
    have ih := jn_spl s
    unfold spl
    by_cases h : c = 47
    · rw [if_pos h, jn_cons _ _ (spl_ne s), ih, h]; rfl
    · rw [if_neg h]
      obtain ⟨r, rs, e⟩ := spl_cons (s := s)
      rw [e] at ih ⊢
      show c :: r ++ jnT rs = c :: s
      have : r ++ jnT rs = s := ih
      rw [List.cons_append, this]
def setG (g : List (List Int)) (y x : Nat) : List (List Int) := g.set y ((g.getD y []).set x 46)
theorem setG_flat {w : Nat} : ∀ (g : List (List Int)) (y x : Nat), (∀ r ∈ g, r.length = w) → x < w → y < g.length → (setG g y x).flatten = g.flatten.set (y * w + x) 46
  | [], _, _, _, _, h => by cases h
  | r :: g, 0, x, hr, hx, _ => by
    have := hr r List.mem_cons_self
    show (r.set x 46 :: g).flatten = _
    rw [List.flatten_cons, List.flatten_cons, Nat.zero_mul, Nat.zero_add, List.set_append_left _ _ (by omega)]
  | r :: g, y + 1, x, hr, hx, hy => by
    have h1 := hr r List.mem_cons_self
    have ih := setG_flat g y x (fun q hq => hr q (List.mem_cons_of_mem _ hq)) hx (by simpa using hy)
    show (r :: setG g y x).flatten = _
    have e : (y + 1) * w + x = r.length + (y * w + x) := by rw [h1, Nat.add_mul]; omega
    rw [List.flatten_cons, List.flatten_cons, ih, e, List.set_append_right _ _ (by omega), Nat.add_sub_cancel_left]
theorem setG_jn {w : Nat} : ∀ (g : List (List Int)) (y x : Nat), (∀ r ∈ g, r.length = w) → x < w → y < g.length → jn (setG g y x) = (jn g).set (y * (w + 1) + x) 46
  | [], _, _, _, _, h => by cases h
  | r :: g, 0, x, hr, hx, _ => by
    have := hr r List.mem_cons_self
    show r.set x 46 ++ jnT g = (r ++ jnT g).set (0 * (w + 1) + x) 46
    rw [Nat.zero_mul, Nat.zero_add, List.set_append_left _ _ (by omega)]
  | r :: g, y + 1, x, hr, hx, hy => by
    have h1 := hr r List.mem_cons_self
    have hy' : y < g.length := by simpa using hy
    have ih := setG_jn g y x (fun q hq => hr q (List.mem_cons_of_mem _ hq)) hx hy'
    have hne : g ≠ [] := fun q => by rw [q] at hy'; cases hy'
    have hne2 : setG g y x ≠ [] := fun q => by
      have := congrArg List.length q
      unfold setG at this
      rw [List.length_set] at this
      simp at this; exact hne this
    show jn (r :: setG g y x) = _
    have e : (y + 1) * (w + 1) + x = r.length + (1 + (y * (w + 1) + x)) := by rw [h1, Nat.add_mul]; omega
    rw [jn_cons _ _ hne, jn_cons _ _ hne2, ih, e, List.set_append_right _ _ (by omega), Nat.add_sub_cancel_left, Nat.add_comm 1]
    rfl
theorem Rc.setG {g : List (List Int)} {w h : Nat} (r : Rc g w h) (y x : Nat) (hy : y < h) : Rc (Ev.setG g y x) w h := by
  have hl := r.len
  refine ⟨by unfold Ev.setG; rw [List.length_set]; exact hl, fun q hq => ?_, r.w1, r.w7, r.h1, r.h7⟩
  rcases List.mem_or_eq_of_mem_set hq with hq | hq
  · exact r.row q hq
  · rw [hq, List.length_set]; exact r.rowj hy
/-- Does the wall at a place not matter? -/
def okB (k : Nat) (g : List (List Int)) (w : Nat) (p : tPuzzle.in) (far0 : Int) (i : Nat) : Bool :=
  match sp_puStates k (jn (setG g (i / w) (i % w)), p.2) with
  | some r => r.2.2.1 && decide (r.2.1 = far0)
  | none => false
def ndl (k : Nat) (g : List (List Int)) (w : Nat) (p : tPuzzle.in) (far0 : Int) (i : Nat) : Bool := decide (g.flatten.getD i 0 = 35) && okB k g w p far0 i
def wl (f : Nat → Bool) : Nat → Nat → List Int
  | _, 0 => []
  | j, d + 1 => (if f j = true then [(j : Int)] else []) ++ wl f (j + 1) d
theorem wl_len (f : Nat → Bool) : ∀ d j, (wl f j d).length ≤ d
  | 0, _ => by simp [wl]
  | d + 1, j => by
    have := wl_len f d (j + 1)
    unfold wl
    rw [List.length_append]
    split <;> simp <;> omega
theorem wl_add (f : Nat → Bool) : ∀ a j b, wl f j (a + b) = wl f j a ++ wl f (j + a) b
  | 0, j, b => by simp [wl]
  | a + 1, j, b => by
    have ih := wl_add f a (j + 1) b
    have e : a + 1 + b = (a + b) + 1 := by omega
    have e2 : j + (a + 1) = j + 1 + a := by omega
    rw [e, e2]
    show _ ++ wl f (j + 1) (a + b) = _
    rw [ih]
    show _ = (_ ++ wl f (j + 1) a) ++ _
    rw [List.append_assoc]
theorem div_mod {w y x : Nat} (hx : x < w) : (y * w + x) / w = y ∧ (y * w + x) % w = x := by
  have h0 : 0 < w := by omega
  constructor
  · rw [Nat.mul_comm, Nat.mul_add_div h0, Nat.div_eq_of_lt hx, Nat.add_zero]
  · rw [Nat.mul_comm, Nat.mul_add_mod, Nat.mod_eq_of_lt hx]
theorem nw_spec (k : Nat) (hk : 1000000000 ≤ k) {g : List (List Int)} {w h : Nat} (r : Rc g w h) (p : tPuzzle.in) (far0 : Int) : ∀ (d n j : Nat) (o : List Int), w * h = j + d → d < n → o.length ≤ j →
    sp_NeedlessWalls_l7 k n p far0 (gr g w h) o g.flatten ((w * h : Nat) : Int) (j : Int) = some (o ++ wl (ndl k g w p far0) j d, true, ())
  | 0, n + 1, j, o, hj, _, _ => by
    show sp_NeedlessWalls_l7s k _ _ _ _ _ _ _ _ = _
    unfold sp_NeedlessWalls_l7s
    rw [if_neg (ndt (by omega))]; simp [wl]
  | d + 1, n + 1, j, o, hj, hn, ho => by
    have hfl := r.flat; have w1 := r.w1; have h1 := r.h1
    have ih := fun o ho => nw_spec k hk r p far0 d n (j + 1) o (by omega) (by omega) ho
    have e1 : rdT (.i .u8) g.flatten (j : Int) = g.flatten.getD j 0 := rfl
    have ew : IntKind.i64.wrap ((j : Int) + 1) = ((j + 1 : Nat) : Int) := by rw [wr (by omega)]; rfl
    show sp_NeedlessWalls_l7s k _ _ _ _ _ _ _ _ = _
    unfold sp_NeedlessWalls_l7s
    rw [if_pos (dt (by omega)), inb_eq (by omega), e1, ew]
    show _ = some (o ++ ((if ndl k g w p far0 j = true then [(j : Int)] else []) ++ wl (ndl k g w p far0) (j + 1) d), true, ())
    by_cases hc : g.flatten.getD j 0 = 35
    · rw [if_neg (nnd hc)]
      have hyl : j / w < h := (Nat.div_lt_iff_lt_mul w1).2 (by rw [Nat.mul_comm]; omega)
      have hxl : j % w < w := Nat.mod_lt _ w1
      have hjd : j / w * w + j % w = j := by rw [Nat.mul_comm]; exact Nat.div_add_mod j w
      have hset := setG_flat g (j / w) (j % w) r.row hxl (by rw [r.len]; exact hyl)
      rw [hjd] at hset
      have r' := r.setG (j / w) (j % w) hyl
      have eg : ((gr g w h).1, (gr g w h).2.1, (([] : List Int) ++ (gr g w h).2.2.1).set (j : Int).toNat 46, ()) = gr (setG g (j / w) (j % w)) w h := by
        show ((w : Int), (h : Int), g.flatten.set j 46, ()) = ((w : Int), (h : Int), (setG g (j / w) (j % w)).flatten, ())
        rw [hset]
      have el : (([] : List Int) ++ (gr g w h).2.2.1).length = w * h := hfl.1
      have el2 : (gr g w h).2.2.1.length = w * h := hfl.1
      rw [if_pos (by rw [el2]; simp; omega), inb_eq (by rw [el]; omega), eg, boText_is k (by omega) r', Option.bind_some]
      have hlen : List.length (jn (setG g (j / w) (j % w))) ≤ 1048576 := by
        have := jn_len (setG g (j / w) (j % w)); have := r'.flat; have := r'.len; have := r'.h7
        omega
      obtain ⟨wd, ok, all, far, s1, -, -, -⟩ := states_is k hk (jn (setG g (j / w) (j % w)), p.2) hlen
      have hnd : ndl k g w p far0 j = (ok && decide (far = far0)) := by
        unfold ndl okB
        rw [decide_eq_true hc, Bool.true_and, s1]
      rw [s1, Option.bind_some, hnd]
      cases ok with
      | false =>
        rw [if_neg (show ¬ (false = true) by decide)]
        refine (ih o (by omega)).trans ?_
        simp
      | true =>
        rw [if_pos rfl]
        by_cases hf : far = far0
        · rw [if_pos (dt hf), if_pos (by simp; omega)]
          refine (ih (o ++ [(j : Int)]) (by simp; omega)).trans ?_
          simp [hf]
        · rw [if_neg (ndt hf)]
          refine (ih o (by omega)).trans ?_
          simp [hf]
    · rw [if_pos (nd hc)]
      refine (ih o (by omega)).trans ?_
      have : ndl k g w p far0 j = false := by unfold ndl; rw [decide_eq_false hc, Bool.false_and]
      rw [this]; simp
theorem nw_in (k : Nat) (hk : 1000000000 ≤ k) {g : List (List Int)} {w h : Nat} (r : Rc g w h) (p : tPuzzle.in) (hp : jn g = p.1) (far0 : Int) (g7 : tPuzzle.in → Int → (List (List Int)) → (List Int) → Int → Int → Int → Option ((List Int) × (Bool × Unit))) (x35 : Int) (y : Nat) (hy : y < h) : ∀ (d n x : Nat) (o : List Int), w = x + d → d < n → o.length ≤ 100 + x →
    im_NeedlessWalls_l10 k g7 n p far0 g o (w : Int) (y : Int) x35 (y : Int) (w : Int) (x : Int) = g7 p far0 g (o ++ wl (ndl k g w p far0) (y * w + x) d) (w : Int) x35 ((y + 1 : Nat) : Int)
  | 0, n + 1, x, o, hx, _, _ => by
    have h7 := r.h7
    show im_NeedlessWalls_l10s k _ _ _ _ _ _ _ _ _ _ _ _ = _
    unfold im_NeedlessWalls_l10s
    rw [if_neg (ndt (by omega)), wr (by omega)]; simp [wl]
  | d + 1, n + 1, x, o, hx, hn, ho => by
    have hfl := r.flat; have w7 := r.w7; have h7 := r.h7; have hl := r.len
    have hxw : x < w := by omega
    have ih := fun o ho => nw_in k hk r p hp far0 g7 x35 y hy d n (x + 1) o (by omega) (by omega) ho
    have ew : IntKind.i64.wrap ((x : Int) + 1) = ((x + 1 : Nat) : Int) := by rw [wr (by omega)]; rfl
    have m1 : y * w ≤ 7 * 7 := Nat.mul_le_mul (by omega) w7
    have m2 : y * (w + 1) ≤ 7 * 8 := Nat.mul_le_mul (by omega) (by omega)
    have q1 : IntKind.i64.wrap ((w : Int) + 1) = ((w + 1 : Nat) : Int) := by rw [wr (by omega)]; rfl
    have q2 : IntKind.i64.wrap ((y : Int) * ((w + 1 : Nat) : Int)) = ((y * (w + 1) : Nat) : Int) := by rw [mulI, wr (by omega)]
    have q3 : IntKind.i64.wrap (((y * (w + 1) : Nat) : Int) + (x : Int)) = ((y * (w + 1) + x : Nat) : Int) := by rw [wr (by omega)]; simp
    have q4 : IntKind.i64.wrap ((y : Int) * (w : Int)) = ((y * w : Nat) : Int) := by rw [mulI, wr (by omega)]
    have q5 : IntKind.i64.wrap (((y * w : Nat) : Int) + (x : Int)) = ((y * w + x : Nat) : Int) := by rw [wr (by omega)]; simp
    have hcell : cell g (x : Int) (y : Int) = g.flatten.getD (y * w + x) 0 := by
      unfold cell
      rw [r.row0, if_pos (by omega), flat_getD g x y r.row hxw (by omega)]
      rfl
    have hdm := div_mod (y := y) hxw
    have hset := setG_jn g y x r.row hxw (by omega)
    have r' := r.setG y x hy
    have hjl : (jn (setG g y x)).length = (jn g).length := by rw [hset, List.length_set]
    show im_NeedlessWalls_l10s k _ _ _ _ _ _ _ _ _ _ _ _ = _
    unfold im_NeedlessWalls_l10s
    rw [if_pos (dt (by omega)), at_is k r, Option.bind_some, hcell, ew, q1, q2, q3, q4, q5]
    show _ = g7 p far0 g (o ++ ((if ndl k g w p far0 (y * w + x) = true then [((y * w + x : Nat) : Int)] else []) ++ wl (ndl k g w p far0) (y * w + (x + 1)) d)) _ _ _
    by_cases hc : g.flatten.getD (y * w + x) 0 = 35
    · rw [if_neg (nnd hc)]
      have hjg : (jn g).length + 1 = w * h + h := by
        have h0 : ∀ G : List (List Int), G ≠ [] → (jn G).length + 1 = G.flatten.length + G.length := by
          intro G hG
          cases G with
          | nil => exact absurd rfl hG
          | cons a G =>
            have := jnT_len G
            simp only [jn, List.length_append, List.flatten_cons, List.length_cons]
            omega
        have := h0 g (fun q => by rw [q] at hl; simp at hl; omega)
        rw [this, hfl.1, hl]
      have hpos : y * (w + 1) + x < (jn g).length := by
        have m3 : (y + 1) * (w + 1) ≤ h * (w + 1) := Nat.mul_le_mul_right _ (by omega)
        rw [Nat.add_mul, Nat.mul_add h, Nat.mul_comm h w] at m3
        omega
      have hpl : p.1.length = (jn g).length := by rw [hp]
      have ep : (p.1.set (((y * (w + 1) + x : Nat) : Int)).toNat 46, p.2) = (jn (setG g y x), p.2) := by
        rw [hset, ← hp]; rfl
      have hlen : List.length (jn (setG g y x)) ≤ 1048576 := by rw [hjl]; have := r.h7; omega
      obtain ⟨wd, ok, all, far, s1, s2, s3, s4⟩ := states_is k hk (jn (setG g y x), p.2) hlen
      have s5 : im_Puzzle_length k (jn (setG g y x), p.2) = some ((List.length wd : Int), ok, ()) := by
        show (im_SolutionOf k (jn (setG g y x), p.2)).bind _ = _
        rw [s2]; rfl
      have hnd : ndl k g w p far0 (y * w + x) = (ok && decide (far = far0)) := by
        unfold ndl okB
        rw [decide_eq_true hc, Bool.true_and, hdm.1, hdm.2, s1]
      rw [if_pos (by rw [hpl]; have := r.h7; omega), inb_eq (by rw [hpl]; omega)]
      show Option.bind (im_Puzzle_length k (p.1.set (((y * (w + 1) + x : Nat) : Int)).toNat 46, p.2)) _ = _
      rw [ep, s5, Option.bind_some, hnd]
      cases ok with
      | false =>
        rw [if_neg (show ¬ (false = true) by decide)]
        refine (ih o (by omega)).trans ?_
        simp
      | true =>
        have hfar := (s4 rfl).1
        rw [if_pos rfl]
        by_cases hf : far = far0
        · rw [if_pos (dt (by rw [← hfar]; exact hf)), if_pos (by simp; omega)]
          refine (ih (o ++ [((y * w + x : Nat) : Int)]) (by simp; omega)).trans ?_
          simp [hf]
        · rw [if_neg (ndt (by rw [← hfar]; exact hf))]
          refine (ih o (by omega)).trans ?_
          simp [hf]
    · rw [if_pos (nd hc)]
      refine (ih o (by omega)).trans ?_
      have : ndl k g w p far0 (y * w + x) = false := by unfold ndl; rw [decide_eq_false hc, Bool.false_and]
      rw [this]; simp
theorem nw_out (k : Nat) (hk : 1000000000 ≤ k) {g : List (List Int)} {w h : Nat} (r : Rc g w h) (p : tPuzzle.in) (hp : jn g = p.1) (far0 : Int) : ∀ (d n y : Nat) (o : List Int), h = y + d → d < n → o.length ≤ y * w →
    im_NeedlessWalls_l7 k n p far0 g o (w : Int) (h : Int) (y : Int) = some (o ++ wl (ndl k g w p far0) (y * w) (d * w), true, ())
  | 0, n + 1, y, o, hy, _, _ => by
    show im_NeedlessWalls_l7s k _ _ _ _ _ _ _ _ _ = _
    unfold im_NeedlessWalls_l7s
    rw [if_neg (ndt (by omega))]; simp [wl]
  | d + 1, n + 1, y, o, hy, hn, ho => by
    have w7 := r.w7; have h7 := r.h7
    have m1 : y * w ≤ 7 * 7 := Nat.mul_le_mul (by omega) w7
    show im_NeedlessWalls_l7s k _ _ _ _ _ _ _ _ _ = _
    unfold im_NeedlessWalls_l7s
    rw [if_pos (dt (by omega))]
    refine (nw_in k hk r p hp far0 (im_NeedlessWalls_l7 k n) (h : Int) y (by omega) w k 0 o (by omega) (by omega) (by omega)).trans ?_
    have hwl := wl_len (ndl k g w p far0) w (y * w + 0)
    refine (nw_out k hk r p hp far0 d n (y + 1) _ (by omega) (by omega) (by rw [List.length_append, Nat.add_mul]; omega)).trans ?_
    have e : (d + 1) * w = w + d * w := by rw [Nat.add_mul]; omega
    have e2 : (y + 1) * w = y * w + w := by rw [Nat.add_mul]; omega
    rw [e, wl_add, e2, List.append_assoc]
    rfl
theorem nw_is (k : Nat) (hk : 1000000000 ≤ k) (p : tPuzzle.in) (hs : List.length p.1 ≤ 1048576) : ∃ l b, List.length l ≤ 100 ∧ sp_NeedlessWalls k p = some (l, b, ()) ∧ im_NeedlessWalls k p = some (l, b, ()) := by
  obtain ⟨wd, ok, all, far, s1, s2, s3, s4⟩ := states_is k hk p hs
  have s5 : im_Puzzle_length k p = some ((List.length wd : Int), ok, ()) := by
    show (im_SolutionOf k p).bind _ = _
    rw [s2]; rfl
  have d1 : sp_NeedlessWalls k p = (sp_puStates k p).bind _ := rfl
  have d2 : im_NeedlessWalls k p = (im_Puzzle_length k p).bind _ := rfl
  rw [d1, d2, s1, s5, Option.bind_some, Option.bind_some]
  cases ok with
  | false => exact ⟨[], false, by simp, rfl, rfl⟩
  | true =>
    obtain ⟨hfar, -, w', h', L, i, b', -⟩ := s4 rfl
    rw [if_neg (show ¬ ((!true) = true) by decide), if_neg (show ¬ ((!true) = true) by decide)]
    rcases board_is k (by omega) p.1 hs with ⟨w, h, b, e1, e2⟩ | ⟨g, e1, e2⟩
    · have hfl := b.rc.flat
      have hl := b.len; have h1 := b.h1; have h7 := b.h7
      have hwl := wl_len (ndl k (spl p.1) w p far) (w * h) 0
      have n1 := nw_spec k hk b.rc p far (w * h) k 0 [] (by omega) (by omega) (by simp)
      have n2 := nw_out k hk b.rc p (jn_spl p.1) far h k 0 [] (by omega) (by omega) (by simp)
      rw [Nat.zero_mul, Nat.mul_comm h w] at n2
      refine ⟨wl (ndl k (spl p.1) w p far) 0 (w * h), true, by omega, ?_, ?_⟩
      · rw [e2, Option.bind_some]
        have e9 : (gr (spl p.1) w h).2.2.1.length = w * h := hfl.1
        show sp_NeedlessWalls_l7 k k p far (gr (spl p.1) w h) [] (spl p.1).flatten ((gr (spl p.1) w h).2.2.1.length : Int) ((0 : Nat) : Int) = _
        rw [e9]; exact n1
      · rw [e1, Option.bind_some, inb_eq (show (0 : Int) ≤ 0 ∧ (0 : Int) < ((spl p.1).length : Int) by omega)]
        show im_NeedlessWalls_l7 k k p (List.length wd : Int) (spl p.1) [] (((spl p.1).getD 0 []).length : Int) ((spl p.1).length : Int) ((0 : Nat) : Int) = _
        rw [b.rc.row0, hl, ← hfar]; exact n2
    · rcases boRead_is k (by omega) p.1 with ⟨w, h, b, e⟩ | ⟨nb, e⟩
      · rw [e] at e2
        have := congrArg (fun z => z.map fun y => y.2.1) e2
        simp at this
      · exact absurd ⟨w', h', b'⟩ nb
theorem eqIntS_loop (k : Nat) (a : List Int) (hb : a.length ≤ 1000) : ∀ (d n j : Nat), a.length = j + d → d < n → la_eqIntS_l4 k n a a (j : Int) = some true
  | 0, n + 1, j, h, _ => by
    show la_eqIntS_l4s k _ _ _ _ = _
    unfold la_eqIntS_l4s
    rw [if_neg (ndt (by omega))]
  | d + 1, n + 1, j, h, hn => by
    show la_eqIntS_l4s k _ _ _ _ = _
    unfold la_eqIntS_l4s
    rw [if_pos (dt (by omega)), inb_eq (by omega), inb_eq (by omega), if_neg (nnd rfl), wr (by omega)]
    exact eqIntS_loop k a hb d n (j + 1) (by omega) (by omega)
theorem eqIntS_is (k : Nat) (_hk : 2097152 ≤ k) (a : List Int) (hb : a.length ≤ 1000) : la_eqIntS k a a = some true := by
  show (if (!decide ((a.length : Int) = (a.length : Int))) = true then _ else _) = _
  rw [if_neg (nnd rfl)]
  exact eqIntS_loop k a hb a.length k 0 (by omega) (by omega)
def mks : Int → Nat → List Int
  | _, 0 => []
  | m, d + 1 => m :: mks (m + 1) d
theorem mks_len : ∀ (d : Nat) (m : Int), (mks m d).length = d
  | 0, _ => rfl
  | d + 1, m => by simp [mks, mks_len d (m + 1)]
theorem markIntS_loop (k : Nat) : ∀ (t : List Int) (n : Nat) (A : List Int) (m : Int), t.length < n → A.length + t.length ≤ 1000 → 0 ≤ m ∧ m + (t.length : Int) ≤ 1000000 →
    la_markIntS_l2 k n (A ++ t) m (A.length : Int) = some (m + (t.length : Int), A ++ mks m t.length)
  | [], n + 1, A, m, _, _, _ => by
    show la_markIntS_l2s k _ _ _ _ = _
    unfold la_markIntS_l2s
    rw [if_neg (ndt (by simp))]; simp [mks]
  | c :: t, n + 1, A, m, hn, hl, hm => by
    rw [List.length_cons] at hn hl hm
    have e0 : (A.length : Int).toNat = A.length := by omega
    have e1 : A ++ m :: t = (A ++ [m]) ++ t := by simp
    have e2 : (A.length : Int) + 1 = ((A ++ [m]).length : Int) := by simp
    show la_markIntS_l2s k _ _ _ _ = _
    unfold la_markIntS_l2s
    rw [if_pos (dt (by simp; omega)), inb_eq (by simp; omega), e0, app_set, wr (x := m + 1) (by omega), wr (by omega), e1, e2]
    rw [markIntS_loop k t n (A ++ [m]) (m + 1) (by omega) (by simp; omega) (by omega)]
    have e3 : m + 1 + (t.length : Int) = m + ((c :: t).length : Int) := by rw [List.length_cons]; omega
    rw [e3]
    simp [mks]
theorem heldIntS_loop (k : Nat) : ∀ (d n : Nat) (A : List Int) (m : Int), d < n → A.length + d ≤ 1000 → 0 ≤ m ∧ m + (d : Int) ≤ 1000000 →
    la_heldIntS_l2 k n (A ++ mks m d) m (A.length : Int) = some (m + (d : Int))
  | 0, n + 1, A, m, _, _, _ => by
    show la_heldIntS_l2s k _ _ _ _ = _
    unfold la_heldIntS_l2s
    rw [if_neg (ndt (by simp [mks]))]; simp
  | d + 1, n + 1, A, m, hn, hl, hm => by
    have hlen : (A ++ mks m (d + 1)).length = A.length + (d + 1) := by rw [List.length_append, mks_len]
    have e1 : rdT I (A ++ mks m (d + 1)) (A.length : Int) = m := app_getD A m (mks (m + 1) d)
    have e2 : A ++ mks m (d + 1) = (A ++ [m]) ++ mks (m + 1) d := by simp [mks]
    have e3 : (A.length : Int) + 1 = ((A ++ [m]).length : Int) := by simp
    show la_heldIntS_l2s k _ _ _ _ = _
    unfold la_heldIntS_l2s
    rw [if_pos (dt (by omega)), inb_eq (by omega), e1, if_neg (nnd rfl), wr (x := m + 1) (by omega), wr (by omega), e2, e3]
    rw [heldIntS_loop k d n (A ++ [m]) (m + 1) (by omega) (by simp; omega) (by omega)]
    congr 1; omega
theorem law_NeedlessWalls (k : Nat) (hk : 1000000000 ≤ k) (x : tPuzzle.in) (h : tPuzzle.InR x) : la_FnExactNeedlessWalls k x = some true := by
  refine guard_puzzle k x h _ fun hl => ?_
  obtain ⟨l, b, h0, e1, e2⟩ := nw_is k hk x hl
  have m1 : la_markIntS k l 1 = some (1 + (l.length : Int), mks 1 l.length) := markIntS_loop k l k [] 1 (by omega) (by simp; omega) (by omega)
  have m2 : la_heldIntS k (mks 1 l.length) 1 = some (1 + (l.length : Int)) := heldIntS_loop k l.length k [] 1 (by omega) (by simp; omega) (by omega)
  have m3 := eqIntS_is k (by omega) l (by omega)
  show ((sp_NeedlessWalls k x).bind fun r3 => (im_NeedlessWalls k x).bind fun r5 => _) = _
  rw [e1, e2, Option.bind_some, Option.bind_some, m3, Option.bind_some, if_neg (by decide), if_neg (nnd rfl), m1, Option.bind_some, m2, Option.bind_some, if_neg (ndt (by omega)), if_neg (nnd rfl)]
  show ((im_NeedlessWalls k x).bind fun r10 => _) = _
  rw [e2, Option.bind_some, m3, Option.bind_some, if_neg (by decide), if_neg (nnd rfl), Option.bind_some, if_neg (ndt (by omega)), if_neg (nnd rfl)]
theorem pure_FnExactNeedlessWalls (x : tPuzzle.in) (h : tPuzzle.InR x) : ∃ k, la_FnExactNeedlessWalls k x = some true := ⟨1000000000, law_NeedlessWalls 1000000000 (Nat.le_refl _) x h⟩
end Ev
