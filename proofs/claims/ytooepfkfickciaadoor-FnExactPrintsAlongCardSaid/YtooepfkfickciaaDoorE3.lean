/-
  What is proved here: an evaluator of the model's code, and that what it comes to holds of the code. Conditions: those that each theorem names; none beyond.
-/
import Derived.Test.YtooepfkfickciaaDoorE2
import Derived.Tactics
import Derived.DeepKeys3
import Derived.Below
import Derived.Lib.SlTrimSet
import Derived.Lib.Bytealg
import Derived.Lib.Join
import Derived.ProofKit
import Derived.OpenShut
import Derived.LaidMore
import Derived.Lay
import Derived.Stop.Joined
/- Code (4): a function. -/
namespace Ev
open Go
section
variable {P : Program} {E : Env}

def psV : List PM → Bool
  | [] => true
  | .v _ :: r => psV r
  | _ => false
def RT.leaf : RT → Bool
  | .v _ | .o _ _ => true
  | _ => false
def RT.many : RT → Bool
  | .pr _ .un => false
  | _ => true
def RT.good : RT → Bool
  | .v _ | .o _ _ | .un => true
  | .pr x y => x.leaf && (y.tail && y.good)
theorem retRes_mk : ∀ (ps : List PM) {A : Type} (r : A) (p : POut ps), retRes ps (retMk ps r p) = r
  | [], _, _, _ => rfl
  | .v _ :: ps, _, r, p => retRes_mk ps r p
  | .io _ _ :: _, _, _, _ => rfl
  | .ib _ _ :: _, _, _, _ => rfl
theorem retOut_mk : ∀ (ps : List PM) {A : Type} (r : A) (p : POut ps), retOut ps (retMk ps r p) = p
  | [], _, _, _ => rfl
  | .v _ :: ps, _, r, p => retOut_mk ps r p
  | .io _ _ :: ps, _, _, p => by
    show (retRes ps (retMk ps p.1 p.2), retOut ps (retMk ps p.1 p.2)) = p
    rw [retRes_mk, retOut_mk]
  | .ib _ _ :: ps, _, _, p => by
    show (retRes ps (retMk ps p.1 p.2), retOut ps (retMk ps p.1 p.2)) = p
    rw [retRes_mk, retOut_mk]
/-- The types of the written parameters stand in the table. -/
def psOk (E : Env) : List PM → Bool
  | [] => true
  | .v _ :: r => psOk E r
  | .io e t :: r => eTy E e t && psOk E r
  | .ib e t :: r => eTy E e t && psOk E r
/-- The slots of the written parameters. -/
def fixOf : List PM → Nat → List Nat
  | [], _ => []
  | .v _ :: r, i => fixOf r (i + 1)
  | .io _ _ :: r, i => i :: fixOf r (i + 1)
  | .ib _ _ :: r, i => i :: fixOf r (i + 1)
theorem argMem_len {Z : Zn} {w : World} : ∀ (ps : List PM) (x : PIn ps) (vs : List Value) (L : List Nat), ArgMem P ps Z w x vs L → vs.length = ps.length
  | [], _, _, _, h => by rw [h.1]; rfl
  | .v _ :: ps, x, _, _, ⟨v, r, e, _, h⟩ => by rw [e, List.length_cons, argMem_len ps x.2 r _ h]; rfl
  | .io _ _ :: ps, x, _, _, ⟨v, r, L2, e, _, _, h⟩ => by rw [e, List.length_cons, argMem_len ps x.2 r _ h]; rfl
  | .ib _ _ :: ps, x, _, _, ⟨b, r, L2, cs, e, _, _, _, h⟩ => by rw [e, List.length_cons, argMem_len ps x.2 r _ h]; rfl
/-- The parameters of a call in their slots. -/
theorem params_sound {a : Act} {w : World} {Z : Zn} : ∀ (ps : List PM) (x : PIn ps) (vs : List Value) (L : List Nat) (i : Nat) (st : St) (pv : Nat → Value) (bl : Nat → Option Nat), psOk E ps = true → ArgMem P ps Z w x vs L → L.Nodup → (∀ b ∈ L, b < w.heap.size ∧ ¬ Z b) → (∀ b ∈ L, ∀ o, bl o ≠ some b) → Sim P E st a w Z pv bl →
    (∀ j v, vs[j]? = some v → a.tmps[i + j]? = some v) → ∃ pv' bl', Sim P E (params ps x i st) a w Z pv' bl' ∧ ∀ o b, bl' o = some b → (∃ o', bl o' = some b) ∨ b ∈ L
  | [], _, _, _, _, _, pv, bl, _, _, _, _, _, h, _ => ⟨pv, bl, h, fun o b hb => .inl ⟨o, hb⟩⟩
  | .v t :: ps, x, _, _, i, st, pv, bl, hp, ⟨v, r, rfl, hv, h⟩, hnd, hL, hLb, hs, ht => by
    have h1 := hs.putBack (d := i) (av := .val t x.1) (v := v) (.val hv) (fun _ => by simpa using ht 0 v rfl)
    exact params_sound ps x.2 r _ (i + 1) _ pv bl hp h hnd hL hLb h1 fun j u hj => by
      have := ht (j + 1) u (by simpa using hj)
      rw [← this]; congr 1; omega
  | .io e t :: ps, x, _, _, i, st, pv, bl, hp, ⟨v, r, L2, rfl, rfl, hv, h⟩, hnd, hL, hLb, hs, ht => by
    have hp' := (Bool.and_eq_true _ _ ▸ hp : _ ∧ _)
    have hty := eTy_some hp'.1
    have h1 : Sim P E (st.new (.arr e t x.1 0)) a w Z (upd pv st.nx v) (upd bl st.nx v.ownBlock) := by
      refine hs.new (fun b hb => ?_) ⟨hty, .inl ⟨Nat.zero_le _, ?_, ?_⟩⟩
      · have hm : b ∈ v.ownBlock.toList ++ L2 := List.mem_append_left _ (by rw [hb]; simp)
        exact ⟨fun o => hLb b hm o, (hL b hm).2, (hL b hm).1⟩
      · show Own P Z w e t x.1 0 (upd pv st.nx v st.nx)
        rw [upd_same]; exact hv
      · show upd bl st.nx _ st.nx = (upd pv st.nx v st.nx).ownBlock
        rw [upd_same, upd_same]
    have h2 := h1.putBack (d := i) (av := .sl st.nx) (v := v) (.ref rfl ⟨Nat.lt_succ_self _, fun _ _ _ _ _ => (upd_same _ _ _).symm⟩) (fun _ => by simpa using ht 0 v rfl)
    obtain ⟨hn1, hn2, hn3⟩ := List.nodup_append.1 hnd
    obtain ⟨pv', bl', h3, h4⟩ := params_sound ps x.2 r L2 (i + 1) _ _ _ hp'.2 h hn2 (fun b hb => hL b (List.mem_append_right _ hb)) (fun b hb o q => by
      by_cases he : o = st.nx
      · subst he
        rw [upd_same] at q
        exact hn3 b (by rw [q]; simp) b hb rfl
      · rw [upd_ne _ _ he] at q
        exact hLb b (List.mem_append_right _ hb) o q) h2 fun j u hj => by
      have := ht (j + 1) u (by simpa using hj)
      rw [← this]; congr 1; omega
    refine ⟨pv', bl', h3, fun o b hb => ?_⟩
    rcases h4 o b hb with ⟨o', q⟩ | q
    · by_cases he : o' = st.nx
      · subst he
        rw [upd_same] at q
        exact .inr (List.mem_append_left _ (by rw [q]; simp))
      · rw [upd_ne _ _ he] at q
        exact .inl ⟨o', q⟩
    · exact .inr (List.mem_append_right _ q)
  | .ib e t :: ps, x, _, _, i, st, pv, bl, hp, ⟨b0, r, L2, cs, rfl, rfl, hg, hv, h⟩, hnd, hL, hLb, hs, ht => by
    have hp' := (Bool.and_eq_true _ _ ▸ hp : _ ∧ _)
    have hty := eTy_some hp'.1
    have hb0 := hL b0 List.mem_cons_self
    obtain ⟨h1, h1r⟩ := hs.atBox (e := e) (t := t) (av := .val t x.1) (cs := cs) (b0 := b0) hty (.val hv) hg hb0.2 (hLb b0 List.mem_cons_self)
    have h2 := h1.putBack (d := i) (av := .ptr st.nx []) (v := .pointer (some ⟨b0, 0, none⟩)) h1r (fun _ => by simpa using ht 0 _ rfl)
    obtain ⟨hn1, hn2⟩ := List.nodup_cons.1 hnd
    obtain ⟨pv', bl', h3, h4⟩ := params_sound ps x.2 r L2 (i + 1) _ _ _ hp'.2 h hn2 (fun b hb => hL b (List.mem_cons_of_mem _ hb)) (fun b hb o q => by
      by_cases he : o = st.nx
      · subst he
        rw [upd_same] at q
        injection q with q
        exact hn1 (q ▸ hb)
      · rw [upd_ne _ _ he] at q
        exact hLb b (List.mem_cons_of_mem _ hb) o q) h2 fun j u hj => by
      have := ht (j + 1) u (by simpa using hj)
      rw [← this]; congr 1; omega
    refine ⟨pv', bl', h3, fun o b hb => ?_⟩
    rcases h4 o b hb with ⟨o', q⟩ | q
    · by_cases he : o' = st.nx
      · subst he
        rw [upd_same] at q
        injection q with q
        exact .inr (q ▸ List.mem_cons_self)
      · rw [upd_ne _ _ he] at q
        exact .inl ⟨o', q⟩
    · exact .inr (List.mem_cons_of_mem _ q)
def resOf (tmps : Array Value) : ResultVar → Sem Value
  | .tmp t => pure (tmps.getD t undef)
  | .cell a t => do loadVar t (← asAddr (tmps.getD a undef))
theorem results_run {fn : Func} {tmps : Array Value} {w : World} {vs : List Value} (h : (fn.results.toList.mapM (resOf tmps)).run P w = .ok vs w) :
    (results fn tmps).run P w = .ok (if h : vs.toArray.size = 1 then vs.toArray[0] else .tuple vs.toArray) w := by
  have e : results fn tmps = (do
    let vs ← fn.results.mapM (resOf tmps)
    pure (if h : vs.size = 1 then vs[0] else .tuple vs)) := rfl
  rw [e, Array.mapM_eq_mapM_toList]
  simp only [Sem.run_bind, map_eq_pure_bind, h]
  rfl
section
variable {st : St} {a : Act} {w : World} {Z : Zn} {pv : Nat → Value} {bl : Nat → Option Nat}
theorem res_one (ty : TyOK P E) (h : Sim P E st a w Z pv bl) (rv : ResultVar) (hd : resAV E st rv ≠ .dead) : ∃ v, (resOf a.tmps rv).run P w = .ok v w ∧ RAV (cx P E st w Z pv bl) (resAV E st rv) v := by
  cases rv with
  | tmp t => exact ⟨_, rfl, h.slot t⟩
  | cell t id =>
    have e1 : resAV E st (.cell t id) = if ptIs E st id (st.sl t) = true then evLoad st (st.sl t) else .dead := rfl
    rw [e1] at hd ⊢
    split at hd
    · rename_i hp
      rw [if_pos hp]
      obtain ⟨u, hu, hpt⟩ := ptIs_some hp
      obtain ⟨b, off, cs, pl⟩ := place_of h (h.slot t) hpt
      refine ⟨ofCells u cs, ?_, pl.rep.toV⟩
      have hrun := run_load_cells ty hu pl.cells pl.rep.len (fun q => pl.rep.one_cell q)
      unfold resOf
      simp only [pl.v]
      exact hrun
    · exact absurd rfl hd
/-- The results as the caller gets them. -/
theorem ret_one (hO : ∀ g o, E.orc g = some o → Contract P g o) (h : Sim P E st a w Z pv bl) {Z' : Zn} (hz : Zle Z Z') (x : RT) (hx : x.leaf = true) {av : AV} {v : Value} (hv : RAV (cx P E st w Z pv bl) av v) {y : x.in} (hr : readRT E st x [av] = some y)
    (hfz : ∀ o ∈ fzRT st x [av], ∀ b, bl o = some b → Z' b) : RetMem P x Z' w y v ((ownRT x [av]).filterMap bl) := by
  cases x with
  | v t =>
    have hs : sn E st t av = some y := hr
    have hrep := sn_sound hO h hv hs
    refine ⟨⟨hrep.1, ?_⟩, rfl⟩
    by_cases hf : t.flat = true
    · exact flat_rep t hf hrep.2
    · have e1 : fzRT st (.v t) [av] = tch st av := by simp only [fzRT, if_neg hf]
      rw [e1] at hfz
      refine hrep.2.mono (fun b hb => ?_) (Agree.refl _ _)
      rcases hb with q | ⟨o, ho, q⟩
      · exact hz b q
      · exact hfz o ho b q
  | o e t =>
    cases av <;> try (simp only [readRT] at hr; done) 
    all_goals try (cases hr; done)
    · rename_i k
      match k, hr with
      | 1, hr =>
        obtain rfl := Option.some.inj (show some [] = some y from hr)
        have hnil : v = .slice none 0 0 := hv.ref_inv rfl
        subst hnil
        exact ⟨⟨[], .nil, .inl ⟨rfl, rfl⟩⟩, rfl⟩
    · rename_i o
      simp only [readRT] at hr
      split at hr
      · rename_i e' u l hh
        split at hr
        · rename_i he
          obtain rfl := Nat.eq_of_beq_eq_true he
          obtain ⟨e1, e2⟩ := cast_some hr
          injection e1 with e1
          subst e1
          have e2' : y = l := e2
          have hrf := hv.ref_inv rfl
          have hvv : v = pv o := hrf.2 _ _ _ _ hh
          have hob : RepOb (cx P E st w Z pv bl) o (.arr e u l 0) := hh ▸ h.obs o hrf.1
          rcases hob.2 with ⟨_, hown, hbl⟩ | ⟨q, _⟩
          · have hown' : Own P Z w e u l 0 (pv o) := hown
            have hbl' : bl o = (pv o).ownBlock := hbl
            refine ⟨?_, ?_⟩
            · rw [hvv, e2']
              exact hown'.mono hz (Agree.refl _ _) (fun _ _ => rfl)
            · show List.filterMap bl [o] = _
              rw [hvv, ← hbl']
              cases hb : bl o <;> simp [hb]
          · cases q
        · cases hr
      · cases hr
  | _ => cases hx
theorem readRT_dead1 {x : RT} (hx : x.leaf = true) {y : x.in} (h : readRT E st x [.dead] = some y) : False := by
  cases x with
  | v t => have h : sn E st t .dead = some y := h; simp [sn, snap] at h
  | o e t => simp [readRT] at h
  | _ => cases hx
theorem ret_tail (ty : TyOK P E) (hO : ∀ g o, E.orc g = some o → Contract P g o) (h : Sim P E st a w Z pv bl) {Z' : Zn} (hz : Zle Z Z') : ∀ (rt : RT) (rs : List ResultVar) (y : rt.in), rt.tail = true → rt.good = true → readRT E st rt (rs.map (resAV E st)) = some y →
    (∀ o ∈ fzRT st rt (rs.map (resAV E st)), ∀ b, bl o = some b → Z' b) →
    ∃ vs, (rs.mapM (resOf a.tmps)).run P w = .ok vs w ∧ RetMem P rt Z' w y (.tuple vs.toArray) ((ownRT rt (rs.map (resAV E st))).filterMap bl) := by
  intro rt
  induction rt with
  | v t => intro rs y q; cases q
  | o e t => intro rs y q; cases q
  | un =>
    intro rs y _ _ hr _
    cases rs with
    | nil => exact ⟨[], rfl, rfl, rfl⟩
    | cons _ _ => simp [readRT] at hr
  | pr x t _ ih =>
    intro rs y _ hg hr hfz
    simp only [RT.good, Bool.and_eq_true] at hg
    cases rs with
    | nil => simp [readRT] at hr
    | cons rv rs =>
      simp only [List.map_cons, readRT] at hr
      split at hr
      · rename_i y1 hy1
        split at hr
        · rename_i y2 hy2
          obtain rfl := Option.some.inj hr
          have hd : resAV E st rv ≠ .dead := fun q => readRT_dead1 hg.1 (q ▸ hy1)
          obtain ⟨v, r1, r2⟩ := res_one ty h rv hd
          have ef : fzRT st (.pr x t) (resAV E st rv :: rs.map (resAV E st)) = fzRT st x [resAV E st rv] ++ fzRT st t (rs.map (resAV E st)) := rfl
          rw [List.map_cons, ef] at hfz
          obtain ⟨vs, q1, q2⟩ := ih rs y2 hg.2.1 hg.2.2 hy2 (fun o ho => hfz o (List.mem_append_right _ ho))
          refine ⟨v :: vs, ?_, v, vs, _, _, hg.2.1, rfl, ?_, ret_one hO h hz x hg.1 r2 hy1 (fun o ho => hfz o (List.mem_append_left _ ho)), q2⟩
          · rw [List.mapM_cons, Sem.run_bind, r1, Result.andThen_ok, Sem.run_bind, q1]; rfl
          · show ((ownRT x [resAV E st rv] ++ ownRT t (rs.map (resAV E st))).filterMap bl) = _
            rw [List.filterMap_append]
        · cases hr
      · cases hr
theorem ret_sound (ty : TyOK P E) (hO : ∀ g o, E.orc g = some o → Contract P g o) (h : Sim P E st a w Z pv bl) {Z' : Zn} (hz : Zle Z Z') {fn : Func} {rt : RT} {y : rt.in} (hg : rt.good = true) (hr : readRT E st rt (fn.results.toList.map (resAV E st)) = some y)
    (hn : rt.many = true)
    (hfz : ∀ o ∈ fzRT st rt (fn.results.toList.map (resAV E st)), ∀ b, bl o = some b → Z' b) :
    ∃ v, (results fn a.tmps).run P w = .ok v w ∧ RetMem P rt Z' w y v ((ownRT rt (fn.results.toList.map (resAV E st))).filterMap bl) := by
  have one : ∀ (x : RT), rt = x → x.leaf = true → ∃ v, (results fn a.tmps).run P w = .ok v w ∧ RetMem P rt Z' w y v ((ownRT rt (fn.results.toList.map (resAV E st))).filterMap bl) := by
    intro x hx hx1
    subst hx
    have hlen : ∃ rv, fn.results.toList = [rv] := by
      cases hl : fn.results.toList with
      | nil => rw [hl] at hr; cases rt <;> first | (simp [readRT] at hr; done) | cases hx1
      | cons rv r =>
        cases r with
        | nil => exact ⟨rv, rfl⟩
        | cons _ _ => rw [hl] at hr; cases rt <;> first | (simp [readRT] at hr; done) | cases hx1
    obtain ⟨rv, hl⟩ := hlen
    rw [hl] at hr hfz ⊢
    have hd : resAV E st rv ≠ .dead := fun q => readRT_dead1 hx1 (y := y) (by rw [List.map_cons, List.map_nil, q] at hr; exact hr)
    obtain ⟨v, r1, r2⟩ := res_one ty h rv hd
    refine ⟨v, ?_, ret_one hO h hz rt hx1 r2 hr hfz⟩
    have := results_run (P := P) (fn := fn) (tmps := a.tmps) (w := w) (vs := [v]) (by rw [hl, List.mapM_cons, Sem.run_bind, r1]; rfl)
    exact this
  cases rt with
  | v t => exact one _ rfl rfl
  | o e t => exact one _ rfl rfl
  | un =>
    obtain ⟨vs, q1, q2⟩ := ret_tail ty hO h hz .un fn.results.toList y rfl rfl hr hfz
    have e : vs = [] := by have := q2.1; simpa using this
    subst e
    exact ⟨_, results_run q1, q2⟩
  | pr x t =>
    obtain ⟨vs, q1, q2⟩ := ret_tail ty hO h hz (.pr x t) fn.results.toList y rfl hg hr hfz
    refine ⟨_, results_run q1, ?_⟩
    have hne : ¬ vs.toArray.size = 1 := by
      obtain ⟨v1, us, L1, L2, h1, h2, h3, h4, h5⟩ := q2
      have e : vs = v1 :: us := by simpa using h2
      subst e
      intro q
      have : us = [] := by cases us <;> simp at q ⊢
      subst this
      cases t with
      | un => cases hn
      | pr x2 t2 => obtain ⟨_, _, _, _, _, q2, _⟩ := h5; simp at q2
      | _ => cases h1
    rw [dif_neg hne]
    exact q2
end
/-- What the written parameters hold at the end. -/
theorem outs_sound (ty : TyOK P E) (hO : ∀ g o, E.orc g = some o → Contract P g o) {st : St} {a : Act} {w w0 : World} {Z Z0 : Zn} {pv : Nat → Value} {bl : Nat → Option Nat} (h : Sim P E st a w Z pv bl) {Z' : Zn} (hz : Zle Z Z') : ∀ (ps : List PM) (x : PIn ps) (vs : List Value) (L : List Nat) (i : Nat) (p : POut ps), psOk E ps = true → ArgMem P ps Z0 w0 x vs L → outs E st ps i = some p →
    (∀ j v, vs[j]? = some v → i + j ∈ fixOf ps i → a.tmps[i + j]? = some v) → (∀ o ∈ outTch st ps i, ∀ b, bl o = some b → Z' b) → OutMem P ps Z' w p vs ∧ L = (outIds st ps i).filterMap bl
  | [], _, _, _, _, _, _, ⟨rfl, rfl⟩, _, _, _ => ⟨rfl, rfl⟩
  | .v t :: ps, x, _, _, i, p, hps, ⟨v, r, rfl, _, hr⟩, ho, ht, hf => by
    simp only [outs] at ho
    split at ho
    · rename_i q hq
      obtain rfl := Option.some.inj ho
      obtain ⟨h1, h2⟩ := outs_sound ty hO h hz ps x.2 r _ (i + 1) q hps hr hq (fun j u hj hm => by
        have := ht (j + 1) u (by simpa using hj) (by
          have e : i + (j + 1) = i + 1 + j := by omega
          rw [e]; exact hm)
        rw [← this]; congr 1; omega) (fun o ho b hb => hf o (List.mem_append_right _ ho) b hb)
      exact ⟨⟨v, r, rfl, h1⟩, by rw [h2]; rfl⟩
    · cases ho
  | .io e t :: ps, x, _, _, i, p, hps, ⟨v, r, L2, rfl, rfl, hv, hr⟩, ho, ht, hf => by
    have hps' := (Bool.and_eq_true _ _ ▸ hps : _ ∧ _)
    simp only [outs] at ho
    split at ho
    · rename_i o hsl
      split at ho
      · rename_i e' u l hh
        split at ho
        · rename_i he
          obtain rfl := Nat.eq_of_beq_eq_true he
          split at ho
          · rename_i y hy
            split at ho
            · rename_i q hq
              obtain rfl := Option.some.inj ho
              obtain ⟨e1, e2⟩ := cast_some hy
              injection e1 with e1
              subst e1
              have e2' : y = l := e2
              have hv0 := ht 0 v rfl (by simp [fixOf])
              have hslot := h.slot i
              rw [hsl] at hslot
              rw [Nat.add_zero] at hv0
              have ev : a.tmps.getD i undef = v := by rw [Array.getD_eq_getD_getElem?, hv0]; rfl
              rw [ev] at hslot
              have hrf := hslot.ref_inv rfl
              have hvv : v = pv o := hrf.2 _ _ _ _ hh
              have hob : RepOb (cx P E st w Z pv bl) o (.arr e u l 0) := hh ▸ h.obs o hrf.1
              obtain ⟨h1, h2⟩ := outs_sound ty hO h hz ps x.2 r L2 (i + 1) q hps'.2 hr hq (fun j w1 hj hm => by
                have := ht (j + 1) w1 (by simpa using hj) (by
                  have e : i + (j + 1) = i + 1 + j := by omega
                  rw [e]; exact List.mem_cons_of_mem _ hm)
                rw [← this]; congr 1; omega) (fun o ho b hb => hf o (List.mem_append_right _ ho) b hb)
              rcases hob.2 with ⟨_, hown, hbl⟩ | ⟨q, _⟩
              · have hown' : Own P Z w e u l 0 (pv o) := hown
                have hbl' : bl o = (pv o).ownBlock := hbl
                refine ⟨⟨v, r, rfl, ?_, h1⟩, ?_⟩
                · rw [hvv]
                  show Own P Z' w e u y 0 (pv o)
                  rw [e2']
                  exact hown'.mono hz (Agree.refl _ _) (fun _ _ => rfl)
                · show _ = List.filterMap bl (outId (.io e u) (st.sl i) ++ outIds st ps (i + 1))
                  rw [hsl, List.filterMap_append, h2, hvv, ← hbl']
                  have : List.filterMap bl (outId (.io e u) (.sl o)) = (bl o).toList := by
                    show List.filterMap bl [o] = _
                    cases hb : bl o <;> simp [hb]
                  rw [this]
              · cases q
            · cases ho
          · cases ho
        · cases ho
      · cases ho
    · cases ho
  | .ib e t :: ps, x, _, _, i, p, hps, ⟨b0, r, L2, cs, rfl, rfl, hg, hv, hr⟩, ho, ht, hf => by
    have hps' := (Bool.and_eq_true _ _ ▸ hps : _ ∧ _)
    have hty := eTy_some hps'.1
    simp only [outs] at ho
    split at ho
    · rename_i o hsl
      split at ho
      · rename_i e' av hh
        split at ho
        · rename_i he
          obtain rfl := Nat.eq_of_beq_eq_true he
          split at ho
          · rename_i y hy
            split at ho
            · rename_i q hq
              obtain rfl := Option.some.inj ho
              have hv0 := ht 0 _ rfl (by simp [fixOf])
              have hslot := h.slot i
              rw [hsl] at hslot
              rw [Nat.add_zero] at hv0
              have ev : a.tmps.getD i undef = .pointer (some ⟨b0, 0, none⟩) := by rw [Array.getD_eq_getD_getElem?, hv0]; rfl
              rw [ev] at hslot
              have hrf := hslot.ref_inv rfl
              obtain ⟨b, t1, off, q1, q2, q3, q4⟩ := hrf.2 _ _ hh
              have hob : RepOb (cx P E st w Z pv bl) o (.box e av) := hh ▸ h.obs o hrf.1
              obtain ⟨t2, b2, cs2, p1, p2, p3, p4⟩ := hob
              have eb : b0 = b := by
                have : (⟨b0, 0, none⟩ : Addr) = ⟨b, off, none⟩ := by injection q4 with q4; injection q4
                injection this
              have eb2 : b2 = b := Option.some.inj (p2.symm.trans q1)
              subst eb2
              subst eb
              obtain ⟨h1, h2⟩ := outs_sound ty hO h hz ps x.2 r L2 (i + 1) q hps'.2 hr hq (fun j w1 hj hm => by
                have := ht (j + 1) w1 (by simpa using hj) (by
                  have e : i + (j + 1) = i + 1 + j := by omega
                  rw [e]; exact List.mem_cons_of_mem _ hm)
                rw [← this]; congr 1; omega) (fun o ho b hb => hf o (List.mem_append_right _ ho) b hb)
              refine ⟨?_, ?_⟩
              · obtain rfl : t = t2 := Option.some.inj (hty.symm.trans p1)
                have hrep := sn_sound hO h p4.toV hy
                have hlen := p4.len
                have hcs : (ofCells t cs2.toList).cells.toList = cs2.toList := by
                  have h0 := hrep.1
                  unfold ofCells at h0 ⊢
                  split
                  · simp [Value.cells]
                  · rename_i hag
                    rw [if_neg hag] at h0
                    have hag' : t.isAgg = false := by simpa using hag
                    have h1 : t.sz = 1 := by cases t <;> first | rfl | cases hag'
                    rw [h1] at hlen
                    match hm : cs2.toList, hlen with
                    | [v], _ =>
                      rw [hm] at h0
                      rw [hag'] at h0
                      show v.cells.toList = [v]
                      cases v <;> first | rfl | cases h0
                have h3 := hrep.2
                rw [hcs] at h3
                refine ⟨b0, r, cs2, rfl, p3, h3.mono (fun b hb => ?_) (Agree.refl _ _), h1⟩
                rcases hb with hb | ⟨o1, ho1, hb⟩
                · exact hz b hb
                · refine hf o1 (List.mem_append_left _ ?_) b hb
                  rw [hsl]
                  show o1 ∈ (match st.hp o with | .box _ v => tch st v | _ => [])
                  rw [hh]; exact ho1
              · show _ = List.filterMap bl (outId (.ib e t) (st.sl i) ++ outIds st ps (i + 1))
                rw [hsl, List.filterMap_append, h2]
                show _ = List.filterMap bl [o] ++ _
                have : List.filterMap bl [o] = [b0] := by
                  have q1' : bl o = some b0 := q1
                  rw [List.filterMap_cons_some q1']; rfl
                rw [this]; rfl
            · cases ho
          · cases ho
        · cases ho
      · cases ho
    · cases ho
theorem fun_sound (ty : TyOK P E) (hO : ∀ g o, E.orc g = some o → Contract P g o) {g : FuncId} {fn : Func} {ps : List PM} {rt : RT} {F : PIn ps → Option (Ret ps rt.in)} (hf : P.funcs[g]? = some fn)
    (hnm : (fn.name == "runtime.NumGoroutine") = false) (hnt : E.nt = fn.ntmps) (hps : psOk E ps = true) (hpl : ps.length ≤ fn.ntmps) (hg : rt.good = true) (hn : rt.many = true)
    {c : Code} (hb : fn.body = some c) (hp : planOk E c = true) (hw : noWr (fixOf ps 0) c = true) (hF : ∀ x y, F x = some y → evFun E ps rt fn x = some y) : Contract P g ⟨ps, rt, F⟩ := by
  refine ⟨⟨fn, hf, hnm, by rw [hb]; rfl⟩, fun w Z x vs L y hy hz ha hnd hL => ?_⟩
  have he := hF x y hy
  have hlen : vs.length = ps.length := argMem_len ps x vs L ha
  refine calls_of_wp hf hb ?_
  unfold evFun at he
  simp only [hb] at he
  have hsz : (vs.toArray ++ Array.replicate (fn.ntmps - vs.toArray.size) undef).size = E.nt := by
    simp; omega
  have h0 : Sim P E (St.empty E.nt) { tmps := vs.toArray ++ Array.replicate (fn.ntmps - vs.toArray.size) undef, defers := [] } w Z (fun _ => undef) (fun _ => none) := by
    refine ⟨hsz.symm, rfl, fun _ _ => rfl, fun _ _ => .dead, fun o ho => absurd ho (Nat.not_lt_zero o), fun _ _ => ⟨rfl, rfl⟩, fun _ _ _ q => (by cases q), fun _ _ q => (by cases q), hz⟩
  have hslots : ∀ j v, vs[j]? = some v → (vs.toArray ++ Array.replicate (fn.ntmps - vs.toArray.size) undef)[0 + j]? = some v := fun j v hj => by
    have hjl : j < vs.length := (List.getElem?_eq_some_iff.1 hj).1
    rw [Nat.zero_add, Array.getElem?_append_left (by simpa using hjl)]
    simpa using hj
  obtain ⟨pv1, bl1, h1, hbl1⟩ := params_sound ps x vs L 0 _ _ _ hps ha hnd hL (fun _ _ _ q => by cases q) h0 hslots
  refine post_mono (code_sound ty hO c _ _ _ w Z _ _ hp hw (fun _ _ => rfl) h1 (Tr.refl _ _ _) he) fun e a w' hq => ?_
  obtain ⟨⟨hnp, st, Z1, pv, bl, hs, ht, hk⟩, hkp⟩ := hq
  have hbl0 : ∀ o b, bl1 o = some b → b ∈ L := fun o b hb => by
    rcases hbl1 o b hb with ⟨_, q⟩ | q
    · cases q
    · exact q
  have hmain : (let avs := fn.results.toList.map (resAV E st)
    let own := ownRT rt avs ++ outIds st ps 0
    let fz := fzRT st rt avs ++ outTch st ps 0
    if nodupB own && apartB own fz then (match readRT E st rt avs, outs E st ps 0 with
      | some r, some p => some (retMk ps r p)
      | _, _ => none) else none) = some y → Keep' (fixOf ps 0) { tmps := vs.toArray ++ Array.replicate (fn.ntmps - vs.toArray.size) undef, defers := [] } a → a.defers = [] ∧ ∃ v, (results fn a.tmps).run P w' = .ok v w' ∧ ∃ v' Z' L1, Ending.returned v = .returned v' ∧ Step L w w' ∧ Zle Z Z' ∧ Znew Z Z' w w' ∧ RetMem P rt Z' w' (retRes ps y) v' L1 ∧ L1.Nodup ∧
      (∀ b ∈ L1, w.heap.size ≤ b ∧ b < w'.heap.size ∧ ¬ Z' b) ∧ OutMem P ps Z' w' (retOut ps y) vs := by
    intro hk hkp
    simp only [] at hk
    split at hk
    · rename_i hc
      simp only [Bool.and_eq_true] at hc
      obtain ⟨hc1, hc2⟩ := hc
      have hnd1 := List.nodup_append.1 (nodupB_nodup hc1)
      have hap : ∀ o ∈ ownRT rt (fn.results.toList.map (resAV E st)) ++ outIds st ps 0, o ∉ fzRT st rt (fn.results.toList.map (resAV E st)) ++ outTch st ps 0 := fun o ho q => apartB_apart hc2 o ho q
      split at hk
      · rename_i r p hr hp2
        obtain rfl := Option.some.inj hk
        obtain ⟨v, q1, q2⟩ := ret_sound ty hO hs (Zt.le Z1 bl (fzRT st rt (fn.results.toList.map (resAV E st)) ++ outTch st ps 0)) hg hr hn (fun o ho b hb => .inr ⟨o, List.mem_append_left _ ho, hb⟩)
        obtain ⟨q3, q4⟩ := outs_sound ty hO hs (Zt.le Z1 bl (fzRT st rt (fn.results.toList.map (resAV E st)) ++ outTch st ps 0)) ps x vs L 0 p hps ha hp2 (fun j u hj hm => (hkp _ hm).trans (hslots j u hj)) (fun o ho b hb => .inr ⟨o, List.mem_append_right _ ho, hb⟩)
        have hLo : ∀ b ∈ L, ∃ o ∈ outIds st ps 0, bl o = some b := fun b hb => by
          rw [q4] at hb
          exact List.mem_filterMap.1 hb
        have hnew : ∀ o b, bl o = some b → b ∈ L ∨ w.heap.size ≤ b := fun o b hb => by
          rcases ht.bnew o b hb with ⟨o', q⟩ | q
          · exact .inl (hbl0 o' b q)
          · exact .inr q
        refine ⟨hs.defers, v, q1, v, Zt Z1 bl (fzRT st rt (fn.results.toList.map (resAV E st)) ++ outTch st ps 0), _, rfl, ⟨ht.os, ht.tape, ht.output, ht.size, fun k hk hkL => ht.frame k hk (fun o q => hkL (hbl0 o k q))⟩, fun b hb => .inl (ht.zle b hb), fun b hb => ?_, ?_, filterMap_nodup hs hnd1.1, fun b hb => ?_, ?_⟩
        · rcases hb with hb | ⟨o, ho, hb⟩
          · rcases ht.znew b hb with q | ⟨o', q⟩ | q
            · exact .inl q
            · obtain ⟨o2, _, q2⟩ := hLo b (hbl0 o' b q)
              exact absurd hb (hs.own o2 b q2).1
            · exact .inr ⟨q, hs.zok b hb⟩
          · rcases hnew o b hb with q | q
            · obtain ⟨o2, ho2, q2⟩ := hLo b q
              have : o2 = o := hs.inj o2 o b q2 hb
              exact absurd ho (this ▸ hap o2 (List.mem_append_right _ ho2))
            · exact .inr ⟨q, (hs.own o b hb).2⟩
        · rw [retRes_mk]; exact q2
        · obtain ⟨o, ho, hb⟩ := List.mem_filterMap.1 hb
          refine ⟨?_, (hs.own o b hb).2, fun q => ?_⟩
          · rcases hnew o b hb with q | q
            · obtain ⟨o2, ho2, q2⟩ := hLo b q
              exact absurd (hs.inj o o2 b hb q2) (hnd1.2.2 o ho o2 ho2)
            · exact q
          · rcases q with q | ⟨o', ho', q⟩
            · exact (hs.own o b hb).1 q
            · exact hap o (List.mem_append_left _ ho) (hs.inj o' o b q hb ▸ ho')
        · rw [retOut_mk]; exact q3
      · cases hk
    · cases hk
  cases e with
  | normal => exact hmain hk (hkp (by simp))
  | ret => exact hmain hk (hkp (by simp))
  | panic c => exact absurd rfl (hnp c)
  | _ => cases hk
end
end Ev
/- Type tables, checked by reckoning. -/
namespace Ev
open Go

abbrev Tab := List (TypeId × T × D)
def tabTy : Tab → TypeId → Option T
  | [], _ => none
  | p :: r, id => if Nat.beq p.1 id = true then some p.2.1 else tabTy r id
def tabDs : Tab → TypeId → D
  | [], _ => .ot
  | p :: r, id => if Nat.beq p.1 id = true then p.2.2 else tabDs r id
theorem tab_mem : ∀ {tab : Tab} {id : TypeId} {t : T}, tabTy tab id = some t → (id, t, tabDs tab id) ∈ tab
  | [], _, _, h => by cases h
  | p :: r, id, t, h => by
    simp only [tabTy, tabDs] at h ⊢
    split at h
    · rename_i hb
      rw [if_pos hb]
      obtain rfl := Nat.eq_of_beq_eq_true hb
      obtain rfl := Option.some.inj h
      exact List.mem_cons_self ..
    · rename_i hb
      rw [if_neg hb]
      exact List.mem_cons_of_mem _ (tab_mem h)
theorem tab_ds : ∀ {tab : Tab} {id : TypeId}, tabDs tab id ≠ .ot → ∃ t, tabTy tab id = some t
  | [], _, h => absurd rfl h
  | p :: r, id, h => by
    simp only [tabTy, tabDs] at h ⊢
    split at h
    · rename_i hb; rw [if_pos hb]; exact ⟨_, rfl⟩
    · rename_i hb; rw [if_neg hb]; exact tab_ds h

def vEq : Value → Value → Bool
  | .int k a, .int k' b => decide (k = k') && decide (a = b)
  | .bool a, .bool b => decide (a = b)
  | .string a, .string b => decide (a.data.toList = b.data.toList)
  | .nilIface, .nilIface => true
  | .slice none 0 0, .slice none 0 0 => true
  | .map none, .map none => true
  | .pointer none, .pointer none => true
  | .nilFunc, .nilFunc => true
  | _, _ => false
theorem vEq_eq {a b : Value} (h : vEq a b = true) : a = b := by
  unfold vEq at h
  split at h
  · simp only [Bool.and_eq_true, decide_eq_true_eq] at h; rw [h.1, h.2]
  · simp only [decide_eq_true_eq] at h; rw [h]
  · rename_i a b
    simp only [decide_eq_true_eq] at h
    obtain ⟨⟨x⟩⟩ := a
    obtain ⟨⟨y⟩⟩ := b
    have h : x = y := h
    rw [h]
  all_goals first | rfl | cases h
def vsEq : List Value → List Value → Bool
  | [], [] => true
  | a :: r, b :: s => vEq a b && vsEq r s
  | _, _ => false
theorem vsEq_eq : ∀ {a b : List Value}, vsEq a b = true → a = b
  | [], [], _ => rfl
  | _ :: _, _ :: _, h => by
    simp only [vsEq, Bool.and_eq_true] at h
    rw [vEq_eq h.1, vsEq_eq h.2]
  | [], _ :: _, h => by cases h
  | _ :: _, [], h => by cases h

def tyIs (tab : Tab) (e : TypeId) (u : T) : Bool :=
  match tabTy tab e with
  | some t => decide (t = u)
  | none => false
theorem tyIs_eq {tab : Tab} {e : TypeId} {u : T} (h : tyIs tab e u = true) : tabTy tab e = some u := by
  unfold tyIs at h
  split at h
  · rename_i t ht; rw [ht, of_decide_eq_true h]
  · cases h
def fldOk (tab : Tab) : T → Nat → List Field → Bool
  | .un, _, [] => true
  | .pr x y, off, f :: r => tyIs tab f.type x && (Nat.beq f.offset off && fldOk tab y (off + x.sz) r)
  | _, _, _ => false
def infoOk (P : Program) (id : TypeId) (t : T) : Bool :=
  match P.info? id with
  | some i => Nat.beq i.size t.sz && (Nat.ble i.bytes 4096 && match i.zero with
    | some z => decide (isAggV z = t.isAgg) && vsEq z.cells.toList t.zcs
    | none => false)
  | none => false
def tOk (tab : Tab) : T → TypeDesc → Bool
  | .i k, .int k' => decide (k = k')
  | .b, .bool => true
  | .s, .string => true
  | .er, .interface _ => true
  | .un, .struct fs => fldOk tab .un 0 fs.toList
  | .pr x y, .struct fs => fldOk tab (.pr x y) 0 fs.toList
  | .ar n t, .array m e => Nat.beq n m && tyIs tab e t
  | .sl t, .slice e => tyIs tab e t
  | .mp k v, .map ki vi => tyIs tab ki k && tyIs tab vi v
  | .pt _, .pointer _ => true
  | _, _ => false
def natsEq : List Nat → List Nat → Bool
  | [], [] => true
  | a :: r, b :: s => Nat.beq a b && natsEq r s
  | _, _ => false
theorem natsEq_eq : ∀ {a b : List Nat}, natsEq a b = true → a = b
  | [], [], _ => rfl
  | _ :: _, _ :: _, h => by
    simp only [natsEq, Bool.and_eq_true] at h
    rw [Nat.eq_of_beq_eq_true h.1, natsEq_eq h.2]
  | [], _ :: _, h => by cases h
  | _ :: _, [], h => by cases h
def dOk (tab : Tab) (t : T) (u : TypeDesc) : D → Bool
  | .sl e => match u, t with
    | .slice e', .sl t' => Nat.beq e' e && tyIs tab e t'
    | _, _ => false
  | .ar n e => match u, t with
    | .array m e', .ar k t' => Nat.beq m n && (Nat.beq e' e && (Nat.beq k n && tyIs tab e t'))
    | _, _ => false
  | .st fs => match u with
    | .struct gs => t.isAgg && natsEq fs (gs.toList.map (·.type))
    | _ => false
  | _ => true
def T.dep : T → Nat
  | .pr x y => x.dep + y.dep
  | .ar _ t => t.dep + 1
  | _ => 1
def cOk (P : Program) (id : TypeId) (t : T) (u : TypeDesc) : Bool :=
  if t.cmp = true then Nat.ble t.dep 10000 && (if t.isAgg = true then !(P.eqGuardType P.depth id) && (match u with
    | .struct fs => !(P.stoodInHeld id) && fs.toList.all fun f => f.name != "_"
    | _ => true) else true) else true
def entOk (P : Program) (tab : Tab) (p : TypeId × T × D) : Bool :=
  p.2.1.plain && (infoOk P p.1 p.2.1 && match P.underlying p.1 with
    | some u => decide (isRowD u = p.2.1.isAgg) && (tOk tab p.2.1 u && (dOk tab p.2.1 u p.2.2 && cOk P p.1 p.2.1 u))
    | none => false)
def tabOk (P : Program) (tab : Tab) : Bool := P.follows .mixedOrders && tab.all (entOk P tab)

structure Ent (P : Program) (tab : Tab) (id : TypeId) (t : T) : Prop where
  plain : t.plain = true
  info : infoOk P id t = true
  desc : ∃ u, P.underlying id = some u ∧ isRowD u = t.isAgg ∧ tOk tab t u = true ∧ dOk tab t u (tabDs tab id) = true ∧ cOk P id t u = true
section
variable {P : Program} {tab : Tab}
theorem ent_of (h : tabOk P tab = true) {id : TypeId} {t : T} (ht : tabTy tab id = some t) : Ent P tab id t := by
  simp only [tabOk, Bool.and_eq_true, List.all_eq_true] at h
  have := h.2 _ (tab_mem ht)
  simp only [entOk, Bool.and_eq_true] at this
  obtain ⟨h1, h2, h3⟩ := this
  refine ⟨h1, h2, ?_⟩
  split at h3
  · rename_i u hu
    simp only [Bool.and_eq_true, decide_eq_true_eq] at h3
    exact ⟨u, hu, h3⟩
  · cases h3
theorem infoOk_some {id : TypeId} {t : T} (h : infoOk P id t = true) : ∃ i z, P.info? id = some i ∧ i.size = t.sz ∧ i.bytes ≤ 4096 ∧ i.zero = some z ∧ isAggV z = t.isAgg ∧ z.cells.toList = t.zcs := by
  unfold infoOk at h
  split at h
  · rename_i i hi
    simp only [Bool.and_eq_true] at h
    obtain ⟨h1, h2, h3⟩ := h
    split at h3
    · rename_i z hz
      simp only [Bool.and_eq_true, decide_eq_true_eq] at h3
      exact ⟨i, z, hi, Nat.eq_of_beq_eq_true h1, Nat.le_of_ble_eq_true h2, hz, h3.1, vsEq_eq h3.2⟩
    · cases h3
  · cases h
theorem fldOk_get : ∀ {t : T} {off : Nat} {fs : List Field}, fldOk tab t off fs = true → ∀ (i : Nat) fd, fs[i]? = some fd → ∃ q o, tabTy tab fd.type = some q ∧ tyAt t [.f i] = some q ∧ offT t [.f i] = some o ∧ fd.offset = off + o := by
  intro t
  induction t with
  | un =>
    intro off fs h i fd hi
    cases fs with
    | nil => simp at hi
    | cons => cases h
  | pr x y _ ih =>
    intro off fs h i fd hi
    cases fs with
    | nil => cases h
    | cons f r =>
      simp only [fldOk, Bool.and_eq_true] at h
      obtain ⟨h1, h2, h3⟩ := h
      cases i with
      | zero =>
        obtain rfl : f = fd := by simpa using hi
        exact ⟨x, 0, tyIs_eq h1, by simp [tyAt], by simp [offT], Nat.eq_of_beq_eq_true h2⟩
      | succ i =>
        obtain ⟨q, o, q1, q2, q3, q4⟩ := ih h3 i fd (by simpa using hi)
        exact ⟨q, x.sz + o, q1, by simpa [tyAt] using q2, by simp [offT, q3], by omega⟩
  | _ => intro off fs h; cases fs <;> cases h
theorem fldOk_at : ∀ {t : T} {off : Nat} {fs : List Field}, fldOk tab t off fs = true → ∀ (i : Nat) q, tyAt t [.f i] = some q → ∃ fd, fs[i]? = some fd := by
  intro t
  induction t with
  | un => intro off fs h i q hi; simp [tyAt] at hi
  | pr x y _ ih =>
    intro off fs h i q hi
    cases fs with
    | nil => cases h
    | cons f r =>
      simp only [fldOk, Bool.and_eq_true] at h
      obtain ⟨h1, h2, h3⟩ := h
      cases i with
      | zero => exact ⟨f, rfl⟩
      | succ i =>
        obtain ⟨fd, hf⟩ := ih h3 i q (by simpa [tyAt] using hi)
        exact ⟨fd, by simpa using hf⟩
  | _ => intro off fs h; cases fs <;> cases h
theorem fldOk_prs : ∀ {t : T} {off : Nat} {fs : List Field}, fldOk tab t off fs = true → ∃ ts : List T, (fs.map (·.type)).map (tabTy tab) = ts.map some ∧ t = T.prs ts := by
  intro t
  induction t with
  | un =>
    intro off fs h
    cases fs with
    | nil => exact ⟨[], rfl, rfl⟩
    | cons => cases h
  | pr x y _ ih =>
    intro off fs h
    cases fs with
    | nil => cases h
    | cons f r =>
      simp only [fldOk, Bool.and_eq_true] at h
      obtain ⟨h1, h2, h3⟩ := h
      obtain ⟨ts, q1, q2⟩ := ih h3
      exact ⟨x :: ts, by simp only [List.map_cons, tyIs_eq h1, q1], by rw [q2]; rfl⟩
  | _ => intro off fs h; cases fs <;> cases h
theorem Ent.struct {id : TypeId} {t : T} (h : Ent P tab id t) (ha : t.isAgg = true) (hn : ∀ n u, t ≠ .ar n u) : ∃ fs, P.underlying id = some (.struct fs) ∧ fldOk tab t 0 fs.toList = true := by
  obtain ⟨u, hu, h1, h2, _⟩ := h.desc
  cases t <;> simp [T.isAgg] at ha
  · cases u <;> simp [tOk] at h2 <;> exact ⟨_, hu, h2⟩
  · cases u <;> simp [tOk] at h2 <;> exact ⟨_, hu, h2⟩
  · exact absurd rfl (hn _ _)
theorem Ent.fields {id : TypeId} {t : T} (h : Ent P tab id t) {fs : Array Field} (hu : P.underlying id = some (.struct fs)) : fldOk tab t 0 fs.toList = true ∧ t.isAgg = true := by
  obtain ⟨u, hu', h1, h2, _⟩ := h.desc
  rw [hu] at hu'
  obtain rfl := Option.some.inj hu'
  cases t <;> simp [tOk] at h2
  · exact ⟨h2, rfl⟩
  · exact ⟨h2, rfl⟩

/-- A part of a value. -/
theorem part_ok (hE : ∀ id t, tabTy tab id = some t → Ent P tab id t) {e : TypeId} {q : T} (hq : tabTy tab e = some q) (hc : q.cmp = true) {xs : Array Value} {off : Nat} {Z : Zn} {w w0 : World} {x : q.in} {c : List Value} (hx : (xs.toList.drop off).take q.sz = c)
    (hr : RepC P q Z w0 x c) : ∃ v, (part e xs off).run P w = .ok v w ∧ RepV P q Z w0 x v := by
  obtain ⟨u, hu, h1, _⟩ := (hE e q hq).desc
  obtain ⟨i, z, hi, hsz, _⟩ := infoOk_some (hE e q hq).info
  have hia : (isAgg e).run P w = .ok q.isAgg w := by
    unfold isAgg
    rw [Sem.run_bind, run_underlying hu w, Result.andThen_ok, ← h1]
    cases u <;> rfl
  have hcell : P.cellsOf e = q.sz := by simp [Program.cellsOf, hi, hsz]
  unfold part
  rw [Sem.run_bind, hia, Result.andThen_ok]
  cases ha : q.isAgg with
  | true =>
    have hl : (xs.extract off (off + q.sz)).toList = c := by
      rw [Array.toList_extract, ← hx]; simp [List.extract]
    refine ⟨.agg (xs.extract off (off + q.sz)), ?_, ha.symm, ?_⟩
    · rw [if_pos rfl, Sem.run_bind, run_sizeOf w hi, hcell]; rfl
    · show RepC P q Z w0 x _
      simp only [Value.cells]
      rw [hl]; exact hr
  | false =>
    have hlen := RepC.length q x c hr
    have hs1 : q.sz = 1 := by cases q <;> simp [T.cmp, T.isAgg] at hc ha <;> rfl
    rw [hs1] at hlen hx
    match c, hlen with
    | [v], _ =>
      have hv : xs[off]? = some v := by
        have : (xs.toList.drop off)[0]? = some v := by
          cases hd : xs.toList.drop off with
          | nil => rw [hd] at hx; simp at hx
          | cons a r => rw [hd] at hx; simpa using hx
        simpa using this
      refine ⟨v, by simp [hv], ?_⟩
      have hag : isAggV v = false := by
        cases q <;> simp [T.cmp, T.isAgg] at hc ha
        · obtain ⟨e1, _⟩ := hr; simp at e1; subst e1; rfl
        · have e1 : [v] = [.bool x] := hr; simp at e1; subst e1; rfl
        · obtain ⟨s, e1, _⟩ := hr; simp at e1; subst e1; rfl
      refine ⟨by rw [hag, ha], ?_⟩
      have : v.cells.toList = [v] := by cases v <;> first | rfl | cases hag
      rw [this]; exact hr
theorem cOk_cmp {id : TypeId} {t : T} {u : TypeDesc} (h : cOk P id t u = true) (hc : t.cmp = true) : t.dep ≤ 10000 ∧ (t.isAgg = true → P.eqGuardType P.depth id = false ∧ ∀ fs, u = .struct fs → P.stoodInHeld id = false ∧ ∀ f ∈ fs.toList, f.name ≠ "_") := by
  unfold cOk at h
  rw [if_pos hc] at h
  simp only [Bool.and_eq_true] at h
  refine ⟨Nat.le_of_ble_eq_true h.1, fun ha => ?_⟩
  have h2 := h.2
  rw [if_pos ha] at h2
  simp only [Bool.and_eq_true, Bool.not_eq_true'] at h2
  refine ⟨h2.1, fun fs hu => ?_⟩
  subst hu
  have h3 := h2.2
  simp only [Bool.and_eq_true, Bool.not_eq_true', List.all_eq_true] at h3
  exact ⟨h3.1, fun f hf => by simpa using h3.2 f hf⟩
theorem dep_pos : ∀ t : T, 1 ≤ t.dep
  | .pr x y => by have := dep_pos x; unfold T.dep; omega
  | .ar _ t => by unfold T.dep; omega
  | .i _ | .b | .s | .un | .er | .sl _ | .mp _ _ | .pt _ | .fn _ _ | .tu _ => by simp [T.dep]
theorem aggV_of {t : T} {Z : Zn} {w : World} {x : t.in} {v : Value} (h : RepV P t Z w x v) (ha : t.isAgg = true) : ∃ xs, v = .agg xs := by
  have := h.1
  rw [ha] at this
  cases v <;> simp [isAggV] at this
  exact ⟨_, rfl⟩

theorem items_eq {n : Nat} {α : Type} {C : α → List Value → Prop} {f : α → α → Bool} {e : TypeId} {D : Nat} {w : World} {xs ys : Array Value}
    (hC : ∀ x c, C x c → c.length = n) (hstep : ∀ (i : Nat) (x y : α) (c d : List Value), (xs.toList.drop (i * n)).take n = c → (ys.toList.drop (i * n)).take n = d → C x c → C y d →
      ∃ a b, (part e xs (i * n)).run P w = .ok a w ∧ (part e ys (i * n)).run P w = .ok b w ∧ (Op.equalIn D e a b).run P w = .ok (f x y) w) :
    ∀ (l m : List α) (k : Nat) (cs ds : List Value), l.length = m.length → Rows C l cs → Rows C m ds → (xs.toList.drop (k * n)).take cs.length = cs → (ys.toList.drop (k * n)).take ds.length = ds →
      (Op.eqItems D e n xs ys (List.range' k l.length)).run P w = .ok (eqL f l m) w := by
  intro l
  induction l with
  | nil =>
    intro m k cs ds hl _ _ _ _
    cases m with
    | nil => simp [Op.eqItems, eqL]
    | cons => simp at hl
  | cons x l ih =>
    intro m k cs ds hl hr hs hx hy
    cases m with
    | nil => simp at hl
    | cons y m =>
      cases hr with
      | @cons _ _ c cs hc hr =>
        cases hs with
        | @cons _ _ d ds hd hs =>
          have hlc := hC _ _ hc
          have hld := hC _ _ hd
          have sp : ∀ {zs : List Value} {c cs : List Value}, c.length = n → (zs.drop (k * n)).take (c ++ cs).length = c ++ cs → (zs.drop (k * n)).take n = c ∧ (zs.drop ((k + 1) * n)).take cs.length = cs := by
            intro zs c cs hlen h
            constructor
            · have := congrArg (List.take n) h
              rw [List.take_take, List.length_append, hlen, Nat.min_eq_left (by omega)] at this
              rw [this, ← hlen]; simp
            · have := congrArg (List.drop n) h
              rw [List.drop_take, List.drop_drop, List.length_append, hlen, Nat.add_sub_cancel_left] at this
              rw [Nat.succ_mul, this, ← hlen]; simp
          obtain ⟨x1, x2⟩ := sp hlc hx
          obtain ⟨y1, y2⟩ := sp hld hy
          obtain ⟨a, b, p1, p2, p3⟩ := hstep k x y c d x1 y1 hc hd
          have := ih m (k + 1) cs ds (by simpa using hl) hr hs x2 y2
          rw [List.length_cons, List.range'_succ]
          simp only [Op.eqItems, Sem.run_bind, p1, p2, p3, Result.andThen_ok]
          cases hf : f x y with
          | false => simp [eqL, hf]
          | true => simpa [eqL, hf] using this

/-- Equality, as the program tells it. -/
theorem equal_ok (hE : ∀ id t, tabTy tab id = some t → Ent P tab id t) : ∀ (t : T), t.cmp = true →
    (∀ (id : TypeId) (D : Nat) (Z : Zn) (w w0 : World) (x y : t.in) (u v : Value), tabTy tab id = some t → t.dep ≤ D → RepV P t Z w0 x u → RepV P t Z w0 y v → (Op.equalIn D id u v).run P w = .ok (t.eqv x y) w) ∧
    (∀ (fs : List Field) (off D : Nat) (Z : Zn) (w w0 : World) (x y : t.in) (xs ys : Array Value) (c d : List Value), fldOk tab t off fs = true → (∀ f ∈ fs, f.name ≠ "_") → t.dep ≤ D + 1 → RepC P t Z w0 x c → RepC P t Z w0 y d →
      (xs.toList.drop off).take t.sz = c → (ys.toList.drop off).take t.sz = d → (Op.eqFields D xs ys fs).run P w = .ok (t.eqv x y) w) := by
  intro t
  have strc : ∀ (t : T), t.cmp = true → t.isAgg = true → (∀ n u, t ≠ .ar n u) →
      (∀ (fs : List Field) (off D : Nat) (Z : Zn) (w w0 : World) (x y : t.in) (xs ys : Array Value) (c d : List Value), fldOk tab t off fs = true → (∀ f ∈ fs, f.name ≠ "_") → t.dep ≤ D + 1 → RepC P t Z w0 x c → RepC P t Z w0 y d →
      (xs.toList.drop off).take t.sz = c → (ys.toList.drop off).take t.sz = d → (Op.eqFields D xs ys fs).run P w = .ok (t.eqv x y) w) →
      (∀ (id : TypeId) (D : Nat) (Z : Zn) (w w0 : World) (x y : t.in) (u v : Value), tabTy tab id = some t → t.dep ≤ D → RepV P t Z w0 x u → RepV P t Z w0 y v → (Op.equalIn D id u v).run P w = .ok (t.eqv x y) w) := by
    intro t hc ha hna hB id D Z w w0 x y u v hid hD hu hv
    have ent := hE id t hid
    obtain ⟨fs, hfs, hf0⟩ := ent.struct ha hna
    obtain ⟨ud, hud, _, _, _, hcok⟩ := ent.desc
    obtain rfl : ud = .struct fs := Option.some.inj (hud.symm.trans hfs)
    obtain ⟨_, h2⟩ := cOk_cmp hcok hc
    obtain ⟨_, h3⟩ := h2 ha
    obtain ⟨hst, hnm⟩ := h3 fs rfl
    obtain ⟨xs, rfl⟩ := aggV_of hu ha
    obtain ⟨ys, rfl⟩ := aggV_of hv ha
    have hp := dep_pos t
    obtain ⟨D', rfl⟩ : ∃ D', D = D' + 1 := ⟨D - 1, by omega⟩
    have hfo : P.fieldsOf id = fs := by simp [Program.fieldsOf, hfs]
    rw [run_equalIn_struct w D' id xs ys (by rw [hfo]; exact hfs) hst, hfo]
    have l1 := RepC.length t x _ hu.2
    have l2 := RepC.length t y _ hv.2
    refine hB fs.toList 0 D' Z w w0 x y xs ys xs.toList ys.toList hf0 hnm (by omega) hu.2 hv.2 ?_ ?_
    · rw [List.drop_zero]; exact List.take_of_length_le (Nat.le_of_eq l1)
    · rw [List.drop_zero]; exact List.take_of_length_le (Nat.le_of_eq l2)
  have noF : ∀ {t : T} {fs : List Field} {off : Nat}, t.isAgg = false → fldOk tab t off fs = true → False := by
    intro t fs off ha h
    cases t <;> cases fs <;> first | (cases h; done) | cases ha
  have noA : ∀ {n : Nat} {t : T} {fs : List Field} {off : Nat}, fldOk tab (.ar n t) off fs = true → False := by
    intro n t fs off h
    cases fs <;> cases h
  induction t with
  | i k =>
    intro _
    refine ⟨fun id D Z w w0 x y u v hid hD hu hv => ?_, fun fs off D Z w w0 x y xs ys c d hf => (noF rfl hf).elim⟩
    obtain ⟨ud, hud, _, h2, _⟩ := (hE id _ hid).desc
    obtain ⟨rfl, _⟩ := RepV.int_inv hu
    obtain ⟨rfl, _⟩ := RepV.int_inv hv
    obtain ⟨D', rfl⟩ : ∃ D', D = D' + 1 := ⟨D - 1, by have : 1 ≤ D := hD; omega⟩
    cases ud <;> simp [tOk] at h2
    rw [run_equalIn_int w D' id k _ x y hud]
    rw [show ((x : Int) == y) = decide ((x : Int) = y) from rfl]; rfl
  | b =>
    intro _
    refine ⟨fun id D Z w w0 x y u v hid hD hu hv => ?_, fun fs off D Z w w0 x y xs ys c d hf => (noF rfl hf).elim⟩
    obtain ⟨ud, hud, _, h2, _⟩ := (hE id _ hid).desc
    obtain rfl := RepV.bool_inv hu
    obtain rfl := RepV.bool_inv hv
    obtain ⟨D', rfl⟩ : ∃ D', D = D' + 1 := ⟨D - 1, by have : 1 ≤ D := hD; omega⟩
    cases ud <;> simp [tOk] at h2
    rw [run_equalIn_bool' w D' id x y hud]
    rw [show ((x : Bool) == y) = decide ((x : Bool) = y) by cases x <;> cases y <;> rfl]; rfl
  | s =>
    intro _
    refine ⟨fun id D Z w w0 x y u v hid hD hu hv => ?_, fun fs off D Z w w0 x y xs ys c d hf => (noF rfl hf).elim⟩
    obtain ⟨ud, hud, _, h2, _⟩ := (hE id _ hid).desc
    obtain ⟨s1, rfl, e1⟩ := RepV.str_inv hu
    obtain ⟨s2, rfl, e2⟩ := RepV.str_inv hv
    obtain ⟨D', rfl⟩ : ∃ D', D = D' + 1 := ⟨D - 1, by have : 1 ≤ D := hD; omega⟩
    cases ud <;> simp [tOk] at h2
    rw [run_equalIn_string w D' id s1 s2 hud]
    have : (s1.toList == s2.toList) = decide ((x : List Int) = y) := by
      rw [← beq_toListBytes]
      rw [e1, e2]
      by_cases he : s1 = s2
      · subst he; simp [ba_beq]
      · have h1 : ¬ strL s1 = strL s2 := fun q => he (strL_inj.1 q)
        rw [decide_eq_false h1]
        cases hb : (s1 == s2) with
        | false => rfl
        | true => rw [beq_toListBytes, ByteArray.toList_eq, ByteArray.toList_eq] at hb; exact absurd (by
            obtain ⟨⟨a⟩⟩ := s1
            obtain ⟨⟨b⟩⟩ := s2
            have : a = b := by simpa using hb
            rw [this]) he
    rw [this]; rfl
  | un =>
    intro hc
    have hB : (∀ (fs : List Field) (off D : Nat) (Z : Zn) (w w0 : World) (x y : T.un.in) (xs ys : Array Value) (c d : List Value), fldOk tab .un off fs = true → (∀ f ∈ fs, f.name ≠ "_") → T.un.dep ≤ D + 1 → RepC P .un Z w0 x c → RepC P .un Z w0 y d →
      (xs.toList.drop off).take T.un.sz = c → (ys.toList.drop off).take T.un.sz = d → (Op.eqFields D xs ys fs).run P w = .ok (T.un.eqv x y) w) := by
      intro fs off D Z w w0 x y xs ys c d hf _ _ _ _ _ _
      cases fs with
      | nil => simp [Op.eqFields, T.eqv]
      | cons => cases hf
    exact ⟨strc .un hc rfl (fun _ _ q => by cases q) hB, hB⟩
  | pr a bb iha ihb =>
    intro hc
    have hc' : a.cmp = true ∧ bb.cmp = true := by simpa [T.cmp] using hc
    have hB : (∀ (fs : List Field) (off D : Nat) (Z : Zn) (w w0 : World) (x y : (T.pr a bb).in) (xs ys : Array Value) (c d : List Value), fldOk tab (.pr a bb) off fs = true → (∀ f ∈ fs, f.name ≠ "_") → (T.pr a bb).dep ≤ D + 1 → RepC P (.pr a bb) Z w0 x c → RepC P (.pr a bb) Z w0 y d →
      (xs.toList.drop off).take (T.pr a bb).sz = c → (ys.toList.drop off).take (T.pr a bb).sz = d → (Op.eqFields D xs ys fs).run P w = .ok ((T.pr a bb).eqv x y) w) := by
      intro fs off D Z w w0 x y xs ys c d hf hnm hD hx hy hcx hdy
      cases fs with
      | nil => cases hf
      | cons f fs =>
        simp only [fldOk, Bool.and_eq_true] at hf
        obtain ⟨f1, f2, f3⟩ := hf
        obtain rfl := Nat.eq_of_beq_eq_true f2
        obtain ⟨c1, c2, rfl, hx1, hx2⟩ := hx
        obtain ⟨d1, d2, rfl, hy1, hy2⟩ := hy
        have sp : ∀ {zs : List Value} {p q : List Value}, p.length = a.sz → q.length = bb.sz → (zs.drop f.offset).take (T.pr a bb).sz = p ++ q → (zs.drop f.offset).take a.sz = p ∧ (zs.drop (f.offset + a.sz)).take bb.sz = q := by
          intro zs p q l1 l2 h
          have e : (T.pr a bb).sz = a.sz + bb.sz := rfl
          rw [e] at h
          constructor
          · have := congrArg (List.take a.sz) h
            rw [List.take_take, Nat.min_eq_left (by omega)] at this
            rw [this, ← l1]; simp
          · have := congrArg (List.drop a.sz) h
            rw [List.drop_take, List.drop_drop, Nat.add_sub_cancel_left] at this
            rw [this, ← l1]; simp
        have lx := RepC.length a _ _ hx1
        have lx2 := RepC.length bb _ _ hx2
        have ly := RepC.length a _ _ hy1
        have ly2 := RepC.length bb _ _ hy2
        obtain ⟨x1, x2⟩ := sp lx lx2 hcx
        obtain ⟨y1, y2⟩ := sp ly ly2 hdy
        have hta := tyIs_eq f1
        obtain ⟨u, p1, r1⟩ := part_ok hE (w := w) hta hc'.1 x1 hx1
        obtain ⟨v, p2, r2⟩ := part_ok hE (w := w) hta hc'.1 y1 hy1
        have hpb := dep_pos bb
        have hdd : a.dep + bb.dep ≤ D + 1 := hD
        have p3 := (iha hc'.1).1 f.type D Z w w0 x.1 y.1 u v hta (by omega) r1 r2
        have ih := (ihb hc'.2).2 fs (f.offset + a.sz) D Z w w0 x.2 y.2 xs ys c2 d2 f3 (fun g hg => hnm g (List.mem_cons_of_mem _ hg)) (by omega) hx2 hy2 x2 y2
        have hn := hnm f (List.mem_cons_self ..)
        simp only [Op.eqFields, hn, ne_eq, not_false_eq_true, if_true, Sem.run_bind, p1, p2, p3, Result.andThen_ok]
        show (if (!(a.eqv x.1 y.1)) = true then pure false else Op.eqFields D xs ys fs : Sem Bool).run P w = .ok (a.eqv x.1 y.1 && bb.eqv x.2 y.2) w
        cases a.eqv x.1 y.1 with
        | false => rfl
        | true => exact ih
    exact ⟨strc (.pr a bb) hc rfl (fun _ _ q => by cases q) hB, hB⟩
  | ar n t ih =>
    intro hc
    have hc' : t.cmp = true := hc
    refine ⟨fun id D Z w w0 x y u v hid hD hu hv => ?_, fun fs off D Z w w0 x y xs ys c d hf => (noA hf).elim⟩
    have ent := hE id _ hid
    obtain ⟨ud, hud, _, h2, _⟩ := ent.desc
    obtain ⟨xs, rfl⟩ := aggV_of hu rfl
    obtain ⟨ys, rfl⟩ := aggV_of hv rfl
    obtain ⟨e, rfl, g2⟩ : ∃ e, ud = .array n e ∧ tyIs tab e t = true := by
      cases ud <;> simp only [tOk, Bool.false_eq_true, Bool.and_eq_true] at h2
      exact ⟨_, by rw [Nat.eq_of_beq_eq_true h2.1], h2.2⟩
    have hte := tyIs_eq g2
    obtain ⟨i, z, hi, hsz, _⟩ := infoOk_some (hE e t hte).info
    have hcell : P.cellsOf e = t.sz := by simp [Program.cellsOf, hi, hsz]
    have hdd : t.dep + 1 ≤ D := hD
    obtain ⟨D', rfl⟩ : ∃ D', D = D' + 1 := ⟨D - 1, by omega⟩
    rw [run_equalIn_array w D' xs ys hud hi, hcell]
    have l1 := hu.2.1
    have l2 := hv.2.1
    have e1 := Rows.len_eq RepC.len hu.2.2
    have := items_eq (P := P) (n := t.sz) (C := RepC P t Z w0) (f := t.eqv) (e := e) (D := D') (w := w) (xs := xs) (ys := ys) RepC.len (fun i x y c d hx hy q1 q2 => by
      obtain ⟨a, p1, r1⟩ := part_ok hE (w := w) hte hc' hx q1
      obtain ⟨b, p2, r2⟩ := part_ok hE (w := w) hte hc' hy q2
      exact ⟨a, b, p1, p2, (ih hc').1 e D' Z w w0 x y a b hte (by omega) r1 r2⟩) x y 0 xs.toList ys.toList (by rw [l1, l2]) hu.2.2 hv.2.2 (by rw [Nat.zero_mul, List.drop_zero, List.take_length]) (by rw [Nat.zero_mul, List.drop_zero, List.take_length])
    rw [l1] at this
    rw [List.range_eq_range']
    exact this
  | _ => intro hc; simp [T.cmp] at hc

theorem items_ck {n : Nat} {α : Type} {C : α → List Value → Prop} {_e : TypeId} {w : World} {xs : Array Value} {f : Nat → Sem Unit}
    (hC : ∀ x c, C x c → c.length = n) (hstep : ∀ (i : Nat) (x : α) (c : List Value), (xs.toList.drop (i * n)).take n = c → C x c → (f i).run P w = .ok () w) :
    ∀ (l : List α) (k : Nat) (cs : List Value), Rows C l cs → (xs.toList.drop (k * n)).take cs.length = cs → ∀ i, k ≤ i → i < k + l.length → (f i).run P w = .ok () w := by
  intro l
  induction l with
  | nil => intro k cs _ _ i h1 h2; simp at h2; omega
  | cons x l ih =>
    intro k cs hr hx i h1 h2
    cases hr with
    | @cons _ _ c cs hc hr =>
      have hlc := hC _ _ hc
      have x1 : (xs.toList.drop (k * n)).take n = c := by
        have := congrArg (List.take n) hx
        rw [List.take_take, List.length_append, hlc, Nat.min_eq_left (by omega)] at this
        rw [this, ← hlc]; simp
      have x2 : (xs.toList.drop ((k + 1) * n)).take cs.length = cs := by
        have := congrArg (List.drop n) hx
        rw [List.drop_take, List.drop_drop, List.length_append, hlc, Nat.add_sub_cancel_left] at this
        rw [Nat.succ_mul, this, ← hlc]; simp
      by_cases hik : i = k
      · subst hik; exact hstep i x c x1 hc
      · exact ih (k + 1) cs hr x2 i (by omega) (by simp only [List.length_cons] at h2; omega)
/-- A key's check. -/
theorem check_ok (hE : ∀ id t, tabTy tab id = some t → Ent P tab id t) (em : Bool) : ∀ (t : T), t.cmp = true →
    (∀ (id : TypeId) (D : Nat) (Z : Zn) (w w0 : World) (x : t.in) (u : Value), tabTy tab id = some t → t.dep ≤ D → RepV P t Z w0 x u → (Instr.checkKey em D id u).run P w = .ok () w) ∧
    (∀ (fs : List Field) (off D : Nat) (Z : Zn) (w w0 : World) (x : t.in) (xs : Array Value) (c : List Value), fldOk tab t off fs = true → t.dep ≤ D + 1 → RepC P t Z w0 x c →
      (xs.toList.drop off).take t.sz = c → ∀ f ∈ fs, ∃ v, (part f.type xs f.offset).run P w = .ok v w ∧ (Instr.checkKey em D f.type v).run P w = .ok () w) := by
  intro t
  have strc : ∀ (t : T), t.cmp = true → t.isAgg = true → (∀ n u, t ≠ .ar n u) →
      (∀ (fs : List Field) (off D : Nat) (Z : Zn) (w w0 : World) (x : t.in) (xs : Array Value) (c : List Value), fldOk tab t off fs = true → t.dep ≤ D + 1 → RepC P t Z w0 x c →
      (xs.toList.drop off).take t.sz = c → ∀ f ∈ fs, ∃ v, (part f.type xs f.offset).run P w = .ok v w ∧ (Instr.checkKey em D f.type v).run P w = .ok () w) →
      (∀ (id : TypeId) (D : Nat) (Z : Zn) (w w0 : World) (x : t.in) (u : Value), tabTy tab id = some t → t.dep ≤ D → RepV P t Z w0 x u → (Instr.checkKey em D id u).run P w = .ok () w) := by
    intro t hc ha hna hB id D Z w w0 x u hid hD hu
    have ent := hE id t hid
    obtain ⟨fs, hfs, hf0⟩ := ent.struct ha hna
    obtain ⟨ud, hud, _, _, _, hcok⟩ := ent.desc
    obtain rfl : ud = .struct fs := Option.some.inj (hud.symm.trans hfs)
    obtain ⟨_, h2⟩ := cOk_cmp hcok hc
    obtain ⟨_, h3⟩ := h2 ha
    obtain ⟨hst, hnm⟩ := h3 fs rfl
    obtain ⟨xs, rfl⟩ := aggV_of hu ha
    have hp := dep_pos t
    obtain ⟨D', rfl⟩ : ∃ D', D = D' + 1 := ⟨D - 1, by omega⟩
    have l1 := RepC.length t x _ hu.2
    have each := hB fs.toList 0 D' Z w w0 x xs xs.toList hf0 (by omega) hu.2 (by rw [List.drop_zero]; exact List.take_of_length_le (Nat.le_of_eq l1))
    rw [Instr.checkKey]
    simp only [Sem.run_bind, run_underlying hfs, Result.andThen_ok]
    rw [← Array.forIn_toList]
    clear hf0
    generalize fs.toList = L at each hnm
    induction L with
    | nil => simp
    | cons f L ih =>
      obtain ⟨v, p1, p2⟩ := each f (by simp)
      have hn := hnm f (by simp)
      simp only [List.forIn_cons, Sem.run_bind, hn, ne_eq, not_false_eq_true, if_true, Result.andThen_ok, p1, p2, Sem.run_pure]
      exact ih (fun y hy => each y (by simp [hy])) (fun y hy => hnm y (by simp [hy]))
  have noF : ∀ {t : T} {fs : List Field} {off : Nat}, t.isAgg = false → fldOk tab t off fs = true → False := by
    intro t fs off ha h
    cases t <;> cases fs <;> first | (cases h; done) | cases ha
  have noA : ∀ {n : Nat} {t : T} {fs : List Field} {off : Nat}, fldOk tab (.ar n t) off fs = true → False := by
    intro n t fs off h
    cases fs <;> cases h
  induction t with
  | i k =>
    intro _
    refine ⟨fun id D Z w w0 x u hid hD hu => ?_, fun fs off D Z w w0 x xs c hf => (noF rfl hf).elim⟩
    obtain ⟨ud, hud, _, h2, _⟩ := (hE id _ hid).desc
    obtain ⟨rfl, _⟩ := RepV.int_inv hu
    obtain ⟨D', rfl⟩ : ∃ D', D = D' + 1 := ⟨D - 1, by have : 1 ≤ D := hD; omega⟩
    cases ud <;> simp [tOk] at h2
    rw [Instr.checkKey]
    simp only [Sem.run_bind, run_underlying hud, Result.andThen_ok]
    rfl
  | b =>
    intro _
    refine ⟨fun id D Z w w0 x u hid hD hu => ?_, fun fs off D Z w w0 x xs c hf => (noF rfl hf).elim⟩
    obtain ⟨ud, hud, _, h2, _⟩ := (hE id _ hid).desc
    obtain rfl := RepV.bool_inv hu
    obtain ⟨D', rfl⟩ : ∃ D', D = D' + 1 := ⟨D - 1, by have : 1 ≤ D := hD; omega⟩
    cases ud <;> simp [tOk] at h2
    rw [Instr.checkKey]
    simp only [Sem.run_bind, run_underlying hud, Result.andThen_ok]
    rfl
  | s =>
    intro _
    refine ⟨fun id D Z w w0 x u hid hD hu => ?_, fun fs off D Z w w0 x xs c hf => (noF rfl hf).elim⟩
    obtain ⟨ud, hud, _, h2, _⟩ := (hE id _ hid).desc
    obtain ⟨s1, rfl, e1⟩ := RepV.str_inv hu
    obtain ⟨D', rfl⟩ : ∃ D', D = D' + 1 := ⟨D - 1, by have : 1 ≤ D := hD; omega⟩
    cases ud <;> simp [tOk] at h2
    rw [Instr.checkKey]
    simp only [Sem.run_bind, run_underlying hud, Result.andThen_ok]
    rfl
  | un =>
    intro hc
    have hB : (∀ (fs : List Field) (off D : Nat) (Z : Zn) (w w0 : World) (x : T.un.in) (xs : Array Value) (c : List Value), fldOk tab .un off fs = true → T.un.dep ≤ D + 1 → RepC P .un Z w0 x c →
      (xs.toList.drop off).take T.un.sz = c → ∀ f ∈ fs, ∃ v, (part f.type xs f.offset).run P w = .ok v w ∧ (Instr.checkKey em D f.type v).run P w = .ok () w) := by
      intro fs off D Z w w0 x xs c hf _ _ _
      cases fs with
      | nil => intro f hf; cases hf
      | cons => cases hf
    exact ⟨strc .un hc rfl (fun _ _ q => by cases q) hB, hB⟩
  | pr a bb iha ihb =>
    intro hc
    have hc' : a.cmp = true ∧ bb.cmp = true := by simpa [T.cmp] using hc
    have hB : (∀ (fs : List Field) (off D : Nat) (Z : Zn) (w w0 : World) (x : (T.pr a bb).in) (xs : Array Value) (c : List Value), fldOk tab (.pr a bb) off fs = true → (T.pr a bb).dep ≤ D + 1 → RepC P (.pr a bb) Z w0 x c →
      (xs.toList.drop off).take (T.pr a bb).sz = c → ∀ f ∈ fs, ∃ v, (part f.type xs f.offset).run P w = .ok v w ∧ (Instr.checkKey em D f.type v).run P w = .ok () w) := by
      intro fs off D Z w w0 x xs c hf hD hx hcx
      cases fs with
      | nil => cases hf
      | cons f fs =>
        simp only [fldOk, Bool.and_eq_true] at hf
        obtain ⟨f1, f2, f3⟩ := hf
        obtain rfl := Nat.eq_of_beq_eq_true f2
        obtain ⟨c1, c2, rfl, hx1, hx2⟩ := hx
        have sp : ∀ {zs : List Value} {p q : List Value}, p.length = a.sz → q.length = bb.sz → (zs.drop f.offset).take (T.pr a bb).sz = p ++ q → (zs.drop f.offset).take a.sz = p ∧ (zs.drop (f.offset + a.sz)).take bb.sz = q := by
          intro zs p q l1 l2 h
          have e : (T.pr a bb).sz = a.sz + bb.sz := rfl
          rw [e] at h
          constructor
          · have := congrArg (List.take a.sz) h
            rw [List.take_take, Nat.min_eq_left (by omega)] at this
            rw [this, ← l1]; simp
          · have := congrArg (List.drop a.sz) h
            rw [List.drop_take, List.drop_drop, Nat.add_sub_cancel_left] at this
            rw [this, ← l1]; simp
        obtain ⟨x1, x2⟩ := sp (RepC.length a _ _ hx1) (RepC.length bb _ _ hx2) hcx
        have hta := tyIs_eq f1
        obtain ⟨u, p1, r1⟩ := part_ok hE (w := w) hta hc'.1 x1 hx1
        have hpb := dep_pos bb
        have hpa := dep_pos a
        have hdd : a.dep + bb.dep ≤ D + 1 := hD
        have p3 := (iha hc'.1).1 f.type D Z w w0 x.1 u hta (by omega) r1
        have ih := (ihb hc'.2).2 fs (f.offset + a.sz) D Z w w0 x.2 xs c2 f3 (by omega) hx2 x2
        intro g hg
        rcases List.mem_cons.1 hg with rfl | hg
        · exact ⟨u, p1, p3⟩
        · exact ih g hg
    exact ⟨strc (.pr a bb) hc rfl (fun _ _ q => by cases q) hB, hB⟩
  | ar n t ih =>
    intro hc
    have hc' : t.cmp = true := hc
    refine ⟨fun id D Z w w0 x u hid hD hu => ?_, fun fs off D Z w w0 x xs c hf => (noA hf).elim⟩
    have ent := hE id _ hid
    obtain ⟨ud, hud, _, h2, _⟩ := ent.desc
    obtain ⟨xs, rfl⟩ := aggV_of hu rfl
    obtain ⟨e, rfl, g2⟩ : ∃ e, ud = .array n e ∧ tyIs tab e t = true := by
      cases ud <;> simp only [tOk, Bool.false_eq_true, Bool.and_eq_true] at h2
      exact ⟨_, by rw [Nat.eq_of_beq_eq_true h2.1], h2.2⟩
    have hte := tyIs_eq g2
    obtain ⟨i, z, hi, hsz, _⟩ := infoOk_some (hE e t hte).info
    have hcell : P.cellsOf e = t.sz := by simp [Program.cellsOf, hi, hsz]
    have hdd : t.dep + 1 ≤ D := hD
    obtain ⟨D', rfl⟩ : ∃ D', D = D' + 1 := ⟨D - 1, by omega⟩
    rw [Instr.checkKey]
    simp only [Sem.run_bind, run_underlying hud, Result.andThen_ok]
    simp only [Std.Legacy.Range.forIn_eq_forIn_range', Std.Legacy.Range.size, Nat.sub_zero, Nat.add_one_sub_one, Nat.div_one]
    have l1 := hu.2.1
    have each := items_ck (P := P) (n := t.sz) (C := RepC P t Z w0) (_e := e) (w := w) (xs := xs) (f := fun i => do Instr.checkKey em D' e (← part e xs (i * (← sizeOf e)))) RepC.len (fun i x c hx q1 => by
      obtain ⟨a, p1, r1⟩ := part_ok hE (w := w) hte hc' hx q1
      have := (ih hc').1 e D' Z w w0 x a hte (by omega) r1
      simp only [Sem.run_bind, run_sizeOf w hi, hcell, Result.andThen_ok, p1, this]) x 0 xs.toList hu.2.2 (by rw [Nat.zero_mul, List.drop_zero, List.take_length])
    have each' : ∀ i ∈ List.range' 0 n, (do Instr.checkKey em D' e (← part e xs (i * (← sizeOf e))) : Sem Unit).run P w = .ok () w := fun i hi => by
      rw [List.mem_range'_1] at hi
      exact each i hi.1 (by rw [l1]; exact hi.2)
    clear each
    generalize List.range' 0 n = is at each'
    induction is with
    | nil => simp
    | cons j is ih =>
      have h1 := each' j (by simp)
      simp only [Sem.run_bind] at h1
      simp only [List.forIn_cons, Sem.run_bind]
      have h2 := ih (fun y hy => each' y (by simp [hy]))
      cases hs : (Go.sizeOf e).run P w with
      | halt q w1 => rw [hs] at h1; cases h1
      | ok sz w1 =>
        rw [hs] at h1
        simp only [Result.andThen_ok] at h1 ⊢
        cases hp : (part e xs (j * sz)).run P w1 with
        | halt q w2 => rw [hp] at h1; cases h1
        | ok a w2 =>
          rw [hp] at h1
          simp only [Result.andThen_ok] at h1 ⊢
          rw [h1]
          simp only [Result.andThen_ok, Sem.run_pure]
          exact h2
  | _ => intro hc; simp [T.cmp] at hc

/-- A table that was checked. -/
theorem tab_ok (h : tabOk P tab = true) {E : Env} (h1 : E.ty = tabTy tab) (h2 : E.ds = tabDs tab) : TyOK P E := by
  have hE : ∀ id t, tabTy tab id = some t → Ent P tab id t := fun id t => ent_of h
  have hds : ∀ {id d}, E.ds id = d → d ≠ .ot → ∃ t u, tabTy tab id = some t ∧ P.underlying id = some u ∧ tOk tab t u = true ∧ dOk tab t u d = true := by
    intro id d hd hne
    rw [h2] at hd
    obtain ⟨t, ht⟩ := tab_ds (tab := tab) (id := id) (by rw [hd]; exact hne)
    obtain ⟨u, a, _, b, c, _⟩ := (hE id t ht).desc
    exact ⟨t, u, ht, a, b, by rw [← hd]; exact c⟩
  constructor
  case info => intro id t ht; rw [h1] at ht; exact infoOk_some (hE id t ht).info
  case plain => intro id t ht; rw [h1] at ht; exact (hE id t ht).plain
  case agg => intro id t ht; rw [h1] at ht; obtain ⟨u, a, b, _⟩ := (hE id t ht).desc; exact ⟨u, a, b⟩
  case int =>
    intro id k ht; rw [h1] at ht
    obtain ⟨u, a, _, b, _⟩ := (hE id _ ht).desc
    cases u <;> simp only [tOk, Bool.false_eq_true] at b
    rw [a, of_decide_eq_true b]
  case str =>
    intro id ht; rw [h1] at ht
    obtain ⟨u, a, _, b, _⟩ := (hE id _ ht).desc
    cases u <;> simp only [tOk, Bool.false_eq_true] at b
    exact a
  case bool =>
    intro id ht; rw [h1] at ht
    obtain ⟨u, a, _, b, _⟩ := (hE id _ ht).desc
    cases u <;> simp only [tOk, Bool.false_eq_true] at b
    exact a
  case sl =>
    intro id e hd
    obtain ⟨t, u, a, b, _, c⟩ := hds hd (fun q => by cases q)
    cases u <;> cases t <;> simp only [dOk, Bool.false_eq_true, Bool.and_eq_true] at c
    rw [b, Nat.eq_of_beq_eq_true c.1]
  case slt =>
    intro id e t hd ht
    obtain ⟨t', u, a, b, _, c⟩ := hds hd (fun q => by cases q)
    rw [h1] at ht ⊢
    obtain rfl := Option.some.inj (a.symm.trans ht)
    cases u <;> cases t' <;> simp only [dOk, Bool.false_eq_true, Bool.and_eq_true] at c
    exact ⟨_, tyIs_eq c.2, rfl⟩
  case ar =>
    intro id n e hd
    obtain ⟨t, u, a, b, _, c⟩ := hds hd (fun q => by cases q)
    rw [h1]
    cases u <;> cases t <;> simp only [dOk, Bool.false_eq_true, Bool.and_eq_true] at c
    obtain ⟨c1, c2, c3, c4⟩ := c
    obtain rfl := Nat.eq_of_beq_eq_true c1
    obtain rfl := Nat.eq_of_beq_eq_true c2
    obtain rfl := Nat.eq_of_beq_eq_true c3
    exact ⟨b, _, tyIs_eq c4, a⟩
  case tar =>
    intro id n u ht; rw [h1] at ht ⊢
    obtain ⟨d, a, _, b, _⟩ := (hE id _ ht).desc
    cases d <;> simp only [tOk, Bool.false_eq_true, Bool.and_eq_true] at b
    exact ⟨_, by rw [a, Nat.eq_of_beq_eq_true b.1], tyIs_eq b.2⟩
  case stc =>
    intro id t ht ha hn; rw [h1] at ht
    obtain ⟨fs, a, _⟩ := (hE id t ht).struct ha hn
    exact ⟨fs, a⟩
  case st =>
    intro id t f q ht hq; rw [h1] at ht ⊢
    have ha : t.isAgg = true ∧ ∀ n u, t ≠ .ar n u := by
      cases t <;> first | (simp [tyAt] at hq; done) | exact ⟨rfl, fun _ _ q => by cases q⟩
    obtain ⟨fs, a, b⟩ := (hE id t ht).struct ha.1 ha.2
    obtain ⟨fd, hf⟩ := fldOk_at b f q hq
    obtain ⟨q', o, g1, g2, g3, g4⟩ := fldOk_get b f fd hf
    obtain rfl := Option.some.inj (hq.symm.trans g2)
    exact ⟨fs, fd, a, by simpa using hf, g1, by rw [g3, g4, Nat.zero_add]⟩
  case stn =>
    intro id t fs ht hu i fd hf; rw [h1] at ht ⊢
    obtain ⟨b, _⟩ := (hE id t ht).fields hu
    obtain ⟨q', o, g1, g2, g3, g4⟩ := fldOk_get b i fd (by simpa using hf)
    exact ⟨q', g1, g2, by rw [g3, g4, Nat.zero_add]⟩
  case dst =>
    intro id fs t hd ht
    obtain ⟨t', u, a, b, b2, c⟩ := hds hd (fun q => by cases q)
    rw [h1] at ht ⊢
    obtain rfl := Option.some.inj (a.symm.trans ht)
    cases u with
    | struct gs =>
      simp only [dOk, Bool.and_eq_true] at c
      rw [natsEq_eq c.2]
      obtain ⟨f1, _⟩ := (hE id t' a).fields b
      exact fldOk_prs f1
    | _ => cases c
  case mp =>
    intro id k v ht; rw [h1] at ht ⊢
    obtain ⟨d, a, _, b, _⟩ := (hE id _ ht).desc
    cases d <;> simp only [tOk, Bool.false_eq_true, Bool.and_eq_true] at b
    exact ⟨_, _, a, tyIs_eq b.1, tyIs_eq b.2⟩
  case er =>
    intro id ht; rw [h1] at ht
    obtain ⟨d, a, _, b, _⟩ := (hE id _ ht).desc
    cases d <;> simp only [tOk, Bool.false_eq_true] at b
    exact ⟨_, a⟩
  case eq =>
    intro id t ht hc Z w w0 x y u v h3 h4; rw [h1] at ht
    obtain ⟨d, _, _, _, _, b⟩ := (hE id _ ht).desc
    exact (equal_ok hE t hc).1 id 10000 Z w w0 x y u v ht (cOk_cmp b hc).1 h3 h4
  case eg =>
    intro id t ht hc ha; rw [h1] at ht
    obtain ⟨d, _, _, _, _, b⟩ := (hE id _ ht).desc
    exact ((cOk_cmp b hc).2 ha).1
  case ck =>
    intro id t ht hc Z w w0 b x u h3; rw [h1] at ht
    obtain ⟨d, _, _, _, _, c⟩ := (hE id _ ht).desc
    exact (check_ok hE b t hc).1 id 10000 Z w w0 x u ht (cOk_cmp c hc).1 h3
  case mixed => simp only [tabOk, Bool.and_eq_true] at h; exact h.1
end
end Ev
namespace Ev
open Go
theorem orc_nil {P : Program} : ∀ (g : FuncId) (o : Orc), (none : Option Orc) = some o → Contract P g o := fun _ _ h => by cases h
theorem orc_cons {P : Program} {n : FuncId} {o0 : Orc} {rest : FuncId → Option Orc} (h0 : Contract P n o0) (hr : ∀ (g : FuncId) (o : Orc), rest g = some o → Contract P g o) :
    ∀ (g : FuncId) (o : Orc), (if Nat.beq g n = true then some o0 else rest g) = some o → Contract P g o := fun g o h => by
  by_cases hg : Nat.beq g n = true
  · rw [if_pos hg] at h
    obtain rfl := Option.some.inj h
    obtain rfl := Nat.eq_of_beq_eq_true hg
    exact h0
  · rw [if_neg hg] at h
    exact hr g o h
end Ev
/- Contracts of the library, told by lists of numbers. -/
namespace Ev
open Go Go.RowKit

theorem below_step {B : Nat} {w w' : World} (h : Below B w w') (hB : w.heap.size ≤ B) : Step [] w w' :=
  ⟨h.os, h.tape, h.output, h.size, fun k hk _ => h.block k (Nat.lt_of_lt_of_le hk hB)⟩
/-- A function of two strings. -/
theorem contract_ss {P : Program} {g : FuncId} {t : T} (F : List Int → List Int → Option t.in) (hE : Enters P g)
    (h : ∀ (s r : ByteArray) (w : World) (y : t.in), F (strL s) (strL r) = some y → Calls P g #[.string s, .string r] w fun e w' => ∃ v, e = .returned v ∧ Step [] w w' ∧ ∀ Z, RepV P t Z w' y v) :
    Contract P g ⟨[.v .s, .v .s], .v t, fun x => F x.1 x.2.1⟩ := by
  refine ⟨hE, fun w Z x vs L y hy hz ha hnd hL => ?_⟩
  obtain ⟨v1, r1, rfl, h1, v2, r2, rfl, h2, rfl, rfl⟩ := ha
  obtain ⟨s, rfl, e1⟩ := RepV.str_inv h1
  obtain ⟨r, rfl, e2⟩ := RepV.str_inv h2
  have hy' : F (strL s) (strL r) = some y := by
    have : F x.1 x.2.1 = some y := hy
    rwa [e1, e2] at this
  refine (h s r w y hy').mono fun e w' => ?_
  rintro ⟨v, rfl, hs, hr⟩
  exact ⟨v, Z, [], rfl, hs, fun _ q => q, fun _ q => .inl q, ⟨hr Z, rfl⟩, List.nodup_nil, (fun _ q => by cases q), _, _, rfl, _, _, rfl, rfl⟩
theorem u8_inj {a b : UInt8} : ((a.toNat : Int) = (b.toNat : Int)) ↔ a = b := by
  rw [Int.ofNat_inj]
  exact ⟨UInt8.toNat_inj.1, fun h => by rw [h]⟩
def lI (l : List UInt8) : List Int := l.map fun c => (c.toNat : Int)
theorem strL_mk (l : List UInt8) : strL ⟨l.toArray⟩ = lI l := rfl
theorem strL_eq (s : ByteArray) : strL s = lI s.data.toList := rfl
theorem one_byte {r : ByteArray} {c : Int} (h : strL r = [c]) : ∃ b : UInt8, r = ⟨#[b]⟩ ∧ c = (b.toNat : Int) := by
  obtain ⟨⟨l⟩⟩ := r
  have h : lI l = [c] := h
  cases l with
  | nil => cases h
  | cons b l =>
    cases l with
    | nil => simp only [lI, List.map_cons, List.map_nil, List.cons.injEq, and_true] at h; exact ⟨b, rfl, h.symm⟩
    | cons _ _ => simp [lI] at h

/-! ### strings.Index, strings.Count at one byte -/
def idxI : List Int → Int → Int
  | [], _ => -1
  | x :: r, c => if x = c then 0 else if idxI r c = -1 then -1 else idxI r c + 1
theorem idxI_eq : ∀ (l : List UInt8) (c : UInt8), Lib.indexByte l c = idxI (lI l) c.toNat
  | [], _ => rfl
  | b :: l, c => by
    show (if b == c then (0 : Int) else if Lib.indexByte l c == -1 then -1 else Lib.indexByte l c + 1) = if ((b.toNat : Int) = c.toNat) then 0 else if idxI (lI l) c.toNat = -1 then -1 else idxI (lI l) c.toNat + 1
    rw [idxI_eq l c]
    by_cases h : b = c
    · rw [if_pos (by simp [h]), if_pos (u8_inj.2 h)]
    · rw [if_neg (by simp [h]), if_neg (fun q => h (u8_inj.1 q))]
      by_cases h2 : idxI (lI l) c.toNat = -1
      · rw [if_pos (by simp [h2]), if_pos h2]
      · rw [if_neg (by simpa using h2), if_neg h2]
def idxF (s r : List Int) : Option Int :=
  match r with
  | [c] => some (idxI s c)
  | _ => none
noncomputable def idxO : Orc := ⟨[.v .s, .v .s], .v (.i .i64), fun x => idxF x.1 x.2.1⟩
theorem idx_c {P : Program} {g : FuncId} (hE : Enters P g) (h : ∀ (s : ByteArray) (c : UInt8) (w : World), Calls P g #[.string s, .string ⟨#[c]⟩] w fun e w' => e = .returned (.int .i64 (Lib.indexByte s.data.toList c)) ∧ w' = w) : Contract P g idxO :=
  contract_ss (t := .i .i64) idxF hE fun s r w y hy => by
    unfold idxF at hy
    split at hy
    · rename_i c hr
      obtain ⟨b, rfl, rfl⟩ := one_byte hr
      obtain rfl := Option.some.inj hy
      refine (h s b w).mono fun e w' => ?_
      rintro ⟨rfl, rfl⟩
      refine ⟨_, rfl, Step.refl _ _, fun Z => ?_⟩
      rw [idxI_eq, ← strL_eq]
      exact RepV.int trivial
    · cases hy
def cntI (l : List Int) (c : Int) : Nat := (l.filter fun x => decide (x = c)).length
theorem cntI_eq : ∀ (l : List UInt8) (c : UInt8), l.count c = cntI (lI l) c.toNat
  | [], _ => rfl
  | b :: l, c => by
    have ih := cntI_eq l c
    unfold cntI at ih ⊢
    have e : lI (b :: l) = (b.toNat : Int) :: lI l := rfl
    rw [List.count_cons, ih, e, List.filter_cons]
    by_cases h : b = c
    · subst h; simp
    · rw [if_neg (by simp [h]), if_neg (by simpa using fun q : (b.toNat : Int) = c.toNat => h (u8_inj.1 q))]
      rfl
def cntF (s r : List Int) : Option Int :=
  match r with
  | [c] => some (cntI s c)
  | _ => none
noncomputable def cntO : Orc := ⟨[.v .s, .v .s], .v (.i .i64), fun x => cntF x.1 x.2.1⟩
theorem cnt_c {P : Program} {g : FuncId} (hE : Enters P g) (h : ∀ (s : ByteArray) (c : UInt8) (w : World), Calls P g #[.string s, .string ⟨#[c]⟩] w fun e w' => e = .returned (.int .i64 (Lib.countByte s.data.toList c)) ∧ w' = w) : Contract P g cntO :=
  contract_ss (t := .i .i64) cntF hE fun s r w y hy => by
    unfold cntF at hy
    split at hy
    · rename_i c hr
      obtain ⟨b, rfl, rfl⟩ := one_byte hr
      obtain rfl := Option.some.inj hy
      refine (h s b w).mono fun e w' => ?_
      rintro ⟨rfl, rfl⟩
      refine ⟨_, rfl, Step.refl _ _, fun Z => ?_⟩
      have : Lib.countByte s.data.toList b = cntI (strL s) b.toNat := cntI_eq _ _
      rw [this]
      exact RepV.int trivial
    · cases hy

/-! ### strings.Trim at a cutset of ASCII -/
def trimI (s cs : List Int) : List Int := ((s.reverse.dropWhile (cs.contains ·)).reverse).dropWhile (cs.contains ·)
theorem lI_contains (l : List UInt8) (c : UInt8) : (lI l).contains (c.toNat : Int) = l.contains c := by
  induction l with
  | nil => rfl
  | cons b l ih =>
    have e : lI (b :: l) = (b.toNat : Int) :: lI l := rfl
    rw [e, List.contains_cons, List.contains_cons, ih]
    by_cases h : c = b
    · subst h; simp
    · have : ¬ ((c.toNat : Int) = b.toNat) := fun q => h (u8_inj.1 q)
      have e1 : ((c.toNat : Int) == (b.toNat : Int)) = false := by simpa using this
      have e2 : (c == b) = false := by simpa using h
      rw [e1, e2]
theorem lI_dropWhile (cs : List UInt8) : ∀ l : List UInt8, lI (l.dropWhile (cs.contains ·)) = (lI l).dropWhile ((lI cs).contains ·)
  | [] => rfl
  | b :: l => by
    have e : lI (b :: l) = (b.toNat : Int) :: lI l := rfl
    rw [e, List.dropWhile_cons, List.dropWhile_cons, lI_contains, ← lI_dropWhile cs l]
    split <;> rfl
theorem lI_reverse (l : List UInt8) : lI l.reverse = (lI l).reverse := by simp [lI]
theorem trimI_eq (l cs : List UInt8) : lI (Lib.trimS l cs) = trimI (lI l) (lI cs) := by
  unfold Lib.trimS Lib.trimLeftS Lib.trimRightS trimI
  rw [lI_dropWhile, lI_reverse, lI_dropWhile, lI_reverse]
def trimF (s cs : List Int) : Option (List Int) :=
  if (cs.all fun c => decide (c < 128)) = true then if cs.length ≤ 1000 then if s.length ≤ 17179869184 then some (trimI s cs) else none else none else none
noncomputable def trimO : Orc := ⟨[.v .s, .v .s], .v .s, fun x => trimF x.1 x.2.1⟩
theorem trim_c {P : Program} {g : FuncId} (hE : Enters P g) (h : ∀ (s cs : ByteArray) (w : World), s.size ≤ 9223372036854775807 → cs.size < 4294967281 → (∀ (j : Nat) b, cs.data.toList[j]? = some b → b.toNat < 128) →
      Calls P g #[.string s, .string cs] w fun e w' => e = .returned (.string ⟨(Lib.trimS s.data.toList cs.data.toList).toArray⟩) ∧ Below w.heap.size w w') : Contract P g trimO :=
  contract_ss (t := .s) trimF hE fun s cs w y hy => by
    unfold trimF at hy
    split at hy
    · rename_i h1
      split at hy
      · rename_i h2
        split at hy
        · rename_i h3
          obtain rfl := Option.some.inj hy
          rw [strL_length] at h2 h3
          refine (h s cs w (by omega) (by omega) (fun j b hb => ?_)).mono fun e w' => ?_
          · rw [List.all_eq_true] at h1
            have := h1 (b.toNat : Int) (List.mem_map.2 ⟨b, List.mem_of_getElem? hb, rfl⟩)
            have := of_decide_eq_true this
            omega
          · rintro ⟨rfl, hb⟩
            refine ⟨_, rfl, below_step hb (Nat.le_refl _), fun Z => ?_⟩
            rw [strL_eq, strL_eq, ← trimI_eq, ← strL_mk]
            exact RepV.str
        · cases hy
      · cases hy
    · cases hy

/-! ### strings.Join -/
theorem lI_append (a b : List UInt8) : lI (a ++ b) = lI a ++ lI b := by simp [lI]
theorem lI_intersperse (sep : List UInt8) : ∀ xs : List (List UInt8), (List.intersperse sep xs).map lI = List.intersperse (lI sep) (xs.map lI)
  | [] => rfl
  | [_] => rfl
  | a :: b :: r => by
    have ih := lI_intersperse sep (b :: r)
    simp only [List.intersperse, List.map_cons] at ih ⊢
    rw [ih]
theorem lI_intercalate (sep : List UInt8) : ∀ (xs : List (List UInt8)), lI (sep.intercalate xs) = (lI sep).intercalate (xs.map lI) := by
  intro xs
  unfold List.intercalate
  rw [← lI_intersperse, lI, List.map_flatten]
  rfl
def sjoinI (xs : List (List Int)) (sep : List Int) : List Int := sep.intercalate xs
def sjoinF (xs : List (List Int)) (sep : List Int) : Option (List Int) :=
  if (sjoinI xs sep).length ≤ 17179869184 then if xs.length ≤ 17179869184 then some (sjoinI xs sep) else none else none
noncomputable def sjoinO : Orc := ⟨[.v (.sl .s), .v .s], .v .s, fun x => sjoinF x.1 x.2.1⟩
theorem rows_str {P : Program} {Z : Zn} {w : World} : ∀ {l : List (List Int)} {cs : List Value}, Rows (RepC P .s Z w) l cs → ∃ xs : List ByteArray, l = xs.map strL ∧ cs = xs.map Value.string := by
  intro l cs r
  induction r with
  | nil => exact ⟨[], rfl, rfl⟩
  | cons hc _ ih =>
    obtain ⟨s, rfl, rfl⟩ := hc
    obtain ⟨xs, rfl, rfl⟩ := ih
    exact ⟨s :: xs, rfl, rfl⟩
theorem join_c {P : Program} {g : FuncId} (hE : Enters P g) (h0 : ∀ (a : Option Addr) (c : Nat) (sep : ByteArray) (w : World), Calls P g #[.slice a 0 c, .string sep] w fun e w' => e = .returned (.string ⟨#[]⟩) ∧ w' = w)
    (h : ∀ (bk o c : Nat) (xs : List ByteArray) (sep : ByteArray) (w : World), (∀ (j : Nat) x, xs[j]? = some x → w.cell? ⟨bk, o + j, none⟩ = some (.string x)) → bk < w.heap.size → xs.length ≤ 140737488355328 → xs.length ≤ c → (Lib.join (xs.map (·.data.toList)) sep.data.toList).length ≤ 140737488355328 →
      Calls P g #[.slice (some ⟨bk, o, none⟩) xs.length c, .string sep] w fun e w' => e = .returned (.string ⟨(Lib.join (xs.map (·.data.toList)) sep.data.toList).toArray⟩) ∧ Below w.heap.size w w') : Contract P g sjoinO := by
  refine ⟨hE, fun w Z x vs L y hy hz ha hnd hL => ?_⟩
  obtain ⟨v1, r1, rfl, h1, v2, r2, rfl, h2, rfl, rfl⟩ := ha
  obtain ⟨sep, rfl, e2⟩ := RepV.str_inv h2
  have hy : sjoinF x.1 x.2.1 = some y := hy
  unfold sjoinF at hy
  split at hy
  · rename_i hl1
    split at hy
    · rename_i hl2
      obtain rfl := Option.some.inj hy
      obtain ⟨hag, a, c, e1, hc, h1⟩ := h1
      have ev : v1 = .slice a x.1.length c := one_inv (P := P) (t := .sl .s) (x := x.1) (Z := Z) (w := w) ⟨hag, a, c, e1, hc, h1⟩ e1 rfl
      subst ev
      have fin : ∀ {e : Ending} {w' : World} {u : ByteArray}, e = .returned (.string u) → Step [] w w' → strL u = sjoinI x.1 x.2.1 → ∃ v Z' L1, e = .returned v ∧ Step [] w w' ∧ Zle Z Z' ∧ Znew Z Z' w w' ∧ RetMem P (.v .s) Z' w' (sjoinI x.1 x.2.1) v L1 ∧ L1.Nodup ∧ (∀ b ∈ L1, w.heap.size ≤ b ∧ b < w'.heap.size ∧ ¬ Z' b) ∧ OutMem P [.v (.sl .s), .v .s] Z' w' () [.slice a x.1.length c, .string sep] := by
        intro e w' u he hs hu
        refine ⟨_, Z, [], he, hs, fun _ q => q, fun _ q => .inl q, ⟨?_, rfl⟩, List.nodup_nil, (fun _ q => by cases q), _, _, rfl, _, _, rfl, rfl⟩
        rw [← hu]; exact RepV.str
      rcases h1 with h1 | ⟨b, off, row, rfl, hb, hrow, hcell⟩
      · have hlen : x.1.length = 0 := by rw [h1]; rfl
        rw [hlen]
        refine (h0 a c sep w).mono fun e w' => ?_
        rintro ⟨rfl, rfl⟩
        have := fin (u := ⟨#[]⟩) rfl (Step.refl _ w') (by rw [h1]; simp [sjoinI, strL, List.intercalate])
        rw [hlen] at this
        exact this
      · obtain ⟨xs, ex, erow⟩ := rows_str hrow
        have hlen : x.1.length = xs.length := by rw [ex, List.length_map]
        have hjl : lI (Lib.join (xs.map (·.data.toList)) sep.data.toList) = sjoinI x.1 x.2.1 := by
          unfold Lib.join sjoinI
          rw [lI_intercalate, ex, e2, List.map_map]
          rfl
        have hjn : (Lib.join (xs.map (·.data.toList)) sep.data.toList).length = (sjoinI x.1 x.2.1).length := by
          rw [← hjl]; simp [lI]
        have hcells : ∀ (j : Nat) s, xs[j]? = some s → w.cell? ⟨b, off + j, none⟩ = some (.string s) := fun j s hj => by
          obtain ⟨cs, e, fr, g1, g2, g3⟩ := hcell
          have hjl : j < xs.length := (List.getElem?_eq_some_iff.1 hj).1
          have hrl : row.length = xs.length := by rw [erow, List.length_map]
          have : row[j]? = some (.string s) := by rw [erow, List.getElem?_map, hj]; rfl
          rw [← g3, List.getElem?_take, if_pos (by omega), List.getElem?_drop] at this
          simp only [World.cell?, g1]
          simpa using this
        rw [hlen] at fin hc ⊢
        refine (h b off c xs sep w hcells (hz b hb) (by omega) hc (by omega)).mono fun e w' => ?_
        rintro ⟨rfl, hbl⟩
        exact fin rfl (below_step hbl (Nat.le_refl _)) (by rw [strL_mk]; exact hjl)
    · cases hy
  · cases hy
end Ev
/- From a contract to a law's row. -/
namespace Ev
open Go Go.ChangeShapes Go.WideShapes Go.ChangeAt Go.RowKit
open Go.WideMaps Go.WideElems

/-- What an argument may hold. -/
def T.InR : (t : T) → t.in → Prop
  | .i k, n => (Lit.int k n).wf = true
  | .s, l => l.length ≤ maxLen ∧ ∀ c ∈ (l : List Int), 0 ≤ c ∧ c ≤ 255
  | .pr x y, p => x.InR p.1 ∧ y.InR p.2
  | .b, _ | .un, _ => True
  | _, _ => False
def T.dat : T → Bool
  | .i _ | .s | .b | .un => true
  | .pr x y => x.dat && y.dat
  | _ => false
section
variable {P : Program} {tab : Tab} {H : Type} {enc : TypeId × Value → H}
theorem Ent.cells {id : TypeId} {t : T} (h : Ent P tab id t) : P.cellsOf id = t.sz := by
  obtain ⟨i, z, hi, hsz, _⟩ := infoOk_some h.info
  simp [Program.cellsOf, hi, hsz]
theorem trod_rep (hE : ∀ id t, tabTy tab id = some t → Ent P tab id t) : ∀ (t : T), t.dat = true →
    (∀ (id : TypeId) (fuel : Nat) (cs : List Value) (W : World) (base : Nat) (sp : Nat → Bool) (hd : Bool) (d : DataW H) (p : List MemPlace), tabTy tab id = some t → DataW.trod enc P W base sp hd fuel id cs = some (d, p) →
      p = [] ∧ (∀ W' base' sp' hd', DataW.trod enc P W' base' sp' hd' fuel id cs = some (d, [])) ∧ ∃ x, t.InR x ∧ ∀ Z w, RepC P t Z w x cs) ∧
    (∀ (fs : List Field) (off fuel : Nat) (cs : List Value) (W : World) (base : Nat) (sp : Nat → Bool) (hd : Bool) (xs : List (DataW H × List MemPlace)), fldOk tab t off fs = true →
      fs.mapM (fun f => DataW.trod enc P W base sp hd fuel f.type ((cs.drop f.offset).take (P.cellsOf f.type))) = some xs →
      (∀ q ∈ xs, q.2 = []) ∧ (∀ W' base' sp' hd', fs.mapM (fun f => DataW.trod enc P W' base' sp' hd' fuel f.type ((cs.drop f.offset).take (P.cellsOf f.type))) = some xs) ∧ ∃ x, t.InR x ∧ ∀ Z w, RepC P t Z w x ((cs.drop off).take t.sz)) := by
  intro t
  have noF : ∀ {t : T} {fs : List Field} {off : Nat}, t.isAgg = false → fldOk tab t off fs = true → False := by
    intro t fs off ha h
    cases t <;> cases fs <;> first | (cases h; done) | cases ha
  have strc : ∀ (t : T), t.isAgg = true → (∀ n u, t ≠ .ar n u) → (∀ (fs : List Field) (off fuel : Nat) (cs : List Value) (W : World) (base : Nat) (sp : Nat → Bool) (hd : Bool) (xs : List (DataW H × List MemPlace)), fldOk tab t off fs = true →
      fs.mapM (fun f => DataW.trod enc P W base sp hd fuel f.type ((cs.drop f.offset).take (P.cellsOf f.type))) = some xs →
      (∀ q ∈ xs, q.2 = []) ∧ (∀ W' base' sp' hd', fs.mapM (fun f => DataW.trod enc P W' base' sp' hd' fuel f.type ((cs.drop f.offset).take (P.cellsOf f.type))) = some xs) ∧ ∃ x, t.InR x ∧ ∀ Z w, RepC P t Z w x ((cs.drop off).take t.sz)) →
      (∀ (id : TypeId) (fuel : Nat) (cs : List Value) (W : World) (base : Nat) (sp : Nat → Bool) (hd : Bool) (d : DataW H) (p : List MemPlace), tabTy tab id = some t → DataW.trod enc P W base sp hd fuel id cs = some (d, p) →
      p = [] ∧ (∀ W' base' sp' hd', DataW.trod enc P W' base' sp' hd' fuel id cs = some (d, [])) ∧ ∃ x, t.InR x ∧ ∀ Z w, RepC P t Z w x cs) := by
    intro t ha hna hB id fuel cs W base sp hd d p hid h
    have ent := hE id t hid
    obtain ⟨fs, hfs, hf0⟩ := ent.struct ha hna
    cases fuel with
    | zero => simp [DataW.trod] at h
    | succ fuel =>
      unfold DataW.trod at h
      simp only [hfs] at h
      split at h
      · rename_i hlen
        simp only [Option.map_eq_some_iff] at h
        obtain ⟨xs, hxs, he⟩ := h
        obtain ⟨h1, h2, x, hx1, hx2⟩ := hB fs.toList 0 fuel cs W base sp hd xs hf0 hxs
        have hp : xs.flatMap (·.2) = [] := List.flatMap_eq_nil_iff.2 h1
        obtain ⟨rfl, rfl⟩ := Prod.mk.inj he
        refine ⟨hp, fun W' base' sp' hd' => ?_, x, hx1, fun Z w => ?_⟩
        · unfold DataW.trod
          simp only [hfs, hlen, if_true]
          rw [h2 W' base' sp' hd', Option.map_some, hp]
        · have := hx2 Z w
          rw [List.drop_zero, List.take_of_length_le (by rw [hlen, ent.cells]; exact Nat.le_refl _)] at this
          exact this
      · cases h
  induction t with
  | i k =>
    intro _
    refine ⟨fun id fuel cs W base sp hd d p hid h => ?_, fun fs off fuel cs W base sp hd xs hf => (noF rfl hf).elim⟩
    obtain ⟨ud, hud, _, h2, _⟩ := (hE id _ hid).desc
    cases ud <;> simp [tOk] at h2
    subst h2
    cases fuel with
    | zero => simp [DataW.trod] at h
    | succ fuel =>
      obtain ⟨n, e1, e2, hw⟩ := DataW.trod_int hud h
      obtain ⟨rfl, rfl⟩ := Prod.mk.inj e2
      subst e1
      refine ⟨rfl, fun W' base' sp' hd' => by simp [DataW.trod, hud, hw], n, hw, fun Z w => ⟨rfl, ?_⟩⟩
      cases k <;> first | trivial | skip
      have hw' : (decide (IntKind.u8.min ≤ n) && decide (n ≤ IntKind.u8.max)) = true := hw
      simp only [Bool.and_eq_true, decide_eq_true_eq] at hw'
      exact hw'
  | b =>
    intro _
    refine ⟨fun id fuel cs W base sp hd d p hid h => ?_, fun fs off fuel cs W base sp hd xs hf => (noF rfl hf).elim⟩
    obtain ⟨ud, hud, _, h2, _⟩ := (hE id _ hid).desc
    cases ud <;> simp [tOk] at h2
    cases fuel with
    | zero => simp [DataW.trod] at h
    | succ fuel =>
      obtain ⟨n, e1, e2⟩ := DataW.trod_bool hud h
      obtain ⟨rfl, rfl⟩ := Prod.mk.inj e2
      subst e1
      exact ⟨rfl, fun W' base' sp' hd' => by simp [DataW.trod, hud], n, trivial, fun Z w => rfl⟩
  | s =>
    intro _
    refine ⟨fun id fuel cs W base sp hd d p hid h => ?_, fun fs off fuel cs W base sp hd xs hf => (noF rfl hf).elim⟩
    obtain ⟨ud, hud, _, h2, _⟩ := (hE id _ hid).desc
    cases ud <;> simp [tOk] at h2
    cases fuel with
    | zero => simp [DataW.trod] at h
    | succ fuel =>
      obtain ⟨s, e1, e2, hs⟩ := DataW.trod_string hud h
      obtain ⟨rfl, rfl⟩ := Prod.mk.inj e2
      subst e1
      refine ⟨rfl, fun W' base' sp' hd' => by simp [DataW.trod, hud, hs], strL s, ⟨by rw [strL_length]; exact hs, fun c hc => ?_⟩, fun Z w => ⟨s, rfl, rfl⟩⟩
      obtain ⟨b, _, rfl⟩ := List.mem_map.1 hc
      have := b.toNat_lt
      omega
  | un =>
    intro _
    have hB : (∀ (fs : List Field) (off fuel : Nat) (cs : List Value) (W : World) (base : Nat) (sp : Nat → Bool) (hd : Bool) (xs : List (DataW H × List MemPlace)), fldOk tab .un off fs = true →
      fs.mapM (fun f => DataW.trod enc P W base sp hd fuel f.type ((cs.drop f.offset).take (P.cellsOf f.type))) = some xs →
      (∀ q ∈ xs, q.2 = []) ∧ (∀ W' base' sp' hd', fs.mapM (fun f => DataW.trod enc P W' base' sp' hd' fuel f.type ((cs.drop f.offset).take (P.cellsOf f.type))) = some xs) ∧ ∃ x, T.un.InR x ∧ ∀ Z w, RepC P .un Z w x ((cs.drop off).take T.un.sz)) := by
      intro fs off fuel cs W base sp hd xs hf hm
      cases fs with
      | nil =>
        simp at hm
        subst hm
        exact ⟨fun q hq => (by cases hq), fun _ _ _ _ => by simp, (), trivial, fun _ _ => by show List.take 0 _ = []; simp⟩
      | cons => cases hf
    exact ⟨strc .un rfl (fun _ _ q => by cases q) hB, hB⟩
  | pr a bb iha ihb =>
    intro hdat
    have hdat' : a.dat = true ∧ bb.dat = true := by simpa [T.dat] using hdat
    have hB : (∀ (fs : List Field) (off fuel : Nat) (cs : List Value) (W : World) (base : Nat) (sp : Nat → Bool) (hd : Bool) (xs : List (DataW H × List MemPlace)), fldOk tab (.pr a bb) off fs = true →
      fs.mapM (fun f => DataW.trod enc P W base sp hd fuel f.type ((cs.drop f.offset).take (P.cellsOf f.type))) = some xs →
      (∀ q ∈ xs, q.2 = []) ∧ (∀ W' base' sp' hd', fs.mapM (fun f => DataW.trod enc P W' base' sp' hd' fuel f.type ((cs.drop f.offset).take (P.cellsOf f.type))) = some xs) ∧ ∃ x, (T.pr a bb).InR x ∧ ∀ Z w, RepC P (.pr a bb) Z w x ((cs.drop off).take (T.pr a bb).sz)) := by
      intro fs off fuel cs W base sp hd xs hf hm
      cases fs with
      | nil => cases hf
      | cons f fs =>
        simp only [fldOk, Bool.and_eq_true] at hf
        obtain ⟨f1, f2, f3⟩ := hf
        obtain rfl := Nat.eq_of_beq_eq_true f2
        have hta := tyIs_eq f1
        rw [List.mapM_cons] at hm
        simp only [bind, Option.bind_eq_some_iff, pure, Option.some.injEq] at hm
        obtain ⟨y, hy, ys, hys, rfl⟩ := hm
        obtain ⟨d, p⟩ := y
        obtain ⟨rfl, g2, x1, g3, g4⟩ := (iha hdat'.1).1 f.type fuel _ W base sp hd d p hta hy
        obtain ⟨q1, q2, x2, q3, q4⟩ := (ihb hdat'.2).2 fs (f.offset + a.sz) fuel cs W base sp hd ys f3 hys
        refine ⟨fun q hq => ?_, fun W' base' sp' hd' => ?_, (x1, x2), ⟨g3, q3⟩, fun Z w => ?_⟩
        · rcases List.mem_cons.1 hq with rfl | hq
          · rfl
          · exact q1 q hq
        · rw [List.mapM_cons, g2 W' base' sp' hd', q2 W' base' sp' hd']; rfl
        · have hc := (hE f.type a hta).cells
          have k1 := g4 Z w
          rw [hc] at k1
          refine ⟨_, _, ?_, k1, q4 Z w⟩
          have e : (T.pr a bb).sz = a.sz + bb.sz := rfl
          rw [e, List.take_add, List.drop_drop]
    exact ⟨strc (.pr a bb) rfl (fun _ _ q => by cases q) hB, hB⟩
  | _ => intro h; cases h

def InRs : (us : List T) → PIn (us.map .v) → Prop
  | [], _ => True
  | t :: us, x => t.InR x.1 ∧ InRs us x.2
theorem ok_agg {W : World} {base : Nat} {id : TypeId} {t : T} {v : Value} (hE : ∀ id t, tabTy tab id = some t → Ent P tab id t) (ht : tabTy tab id = some t) (hd : t.dat = true) (h : Value.okWide P W .any base id v) : isAggV v = t.isAgg := by
  obtain ⟨u, hu, h1, h2, _⟩ := (hE id t ht).desc
  cases t <;> simp [T.dat] at hd
  · cases u <;> simp [tOk] at h2
    obtain ⟨n, rfl⟩ := okWide_int hu h
    rfl
  · cases u <;> simp [tOk] at h2
    obtain ⟨n, rfl⟩ := okWide_bool hu h
    rfl
  · cases u <;> simp [tOk] at h2
    obtain ⟨n, rfl⟩ := okWide_string hu h
    rfl
  · cases u <;> simp [tOk] at h2
    unfold Value.okWide at h
    simp only [hu] at h
    obtain ⟨cs, rfl, _⟩ := h
    rfl
  · cases u <;> simp [tOk] at h2
    unfold Value.okWide at h
    simp only [hu] at h
    obtain ⟨cs, rfl, _⟩ := h
    rfl
theorem args_rep (hE : ∀ id t, tabTy tab id = some t → Ent P tab id t) {W : World} {base : Nat} : ∀ (ts : List TypeId) (us : List T), ts.map (tabTy tab) = us.map some → us.all T.dat = true → ∀ (b0 : Nat) (sp : Nat → Bool) (hd : Bool) (args : List Value) (ds : List (DataW H)) (p : List MemPlace), DataW.TrodAll enc P W b0 sp hd ts args ds p →
    (∀ (j : Nat) t v, ts[j]? = some t → args[j]? = some v → Value.okWide P W .any base t v) →
    p = [] ∧ ds.length = us.length ∧ (∀ W' b' sp' hd', DataW.TrodAll enc P W' b' sp' hd' ts args ds []) ∧ ∃ x : PIn (us.map .v), InRs us x ∧ ∀ Z w, ArgMem P (us.map .v) Z w x args [] := by
  intro ts
  induction ts with
  | nil =>
    intro us hts hdat b0 sp hd args ds p h hv
    cases us with
    | cons => simp at hts
    | nil =>
      cases args with
      | cons => cases ds <;> exact h.elim
      | nil =>
        cases ds with
        | cons => exact h.elim
        | nil => exact ⟨h, rfl, fun _ _ _ _ => rfl, (), trivial, fun _ _ => ⟨rfl, rfl⟩⟩
  | cons t ts ih =>
    intro us hts hdat b0 sp hd args ds p h hv
    cases us with
    | nil => simp at hts
    | cons u us =>
      obtain ⟨h1, h2⟩ : tabTy tab t = some u ∧ ts.map (tabTy tab) = us.map some := by simpa using hts
      obtain ⟨d1, d2⟩ : u.dat = true ∧ us.all T.dat = true := by simpa using hdat
      cases args with
      | nil => cases ds <;> exact h.elim
      | cons v vs =>
        cases ds with
        | nil => exact h.elim
        | cons d ds =>
          obtain ⟨p1, p2, ⟨fuel, g1⟩, g2, rfl⟩ := h
          obtain ⟨rfl, q2, x1, q3, q4⟩ := (trod_rep hE u d1).1 t fuel _ W b0 sp hd d p1 h1 g1
          obtain ⟨rfl, r0, r1, x2, r2, r3⟩ := ih us h2 d2 b0 sp hd vs ds p2 g2 (fun j t v hj hv' => hv (j + 1) t v (by simpa using hj) (by simpa using hv'))
          have hag := ok_agg hE h1 d1 (hv 0 t v rfl rfl)
          exact ⟨rfl, by simp [r0], fun W' b' sp' hd' => ⟨[], [], ⟨fuel, q2 W' b' sp' hd'⟩, r1 W' b' sp' hd', rfl⟩, (x1, x2), ⟨q3, r2⟩, fun Z w => ⟨v, vs, rfl, ⟨hag, q4 Z w⟩, r3 Z w⟩⟩

/-- What a law's call is to come to. -/
def LawCalls (P : Program) (F : FuncId) (us : List T) (x : PIn (us.map .v)) : Prop :=
  ∀ (W : World) (Z : Zn) (vs : List Value), ZOK Z W → ArgMem P (us.map .v) Z W x vs [] → Calls P F vs.toArray W fun e W' => e = .returned (.bool true) ∧ Step [] W W'
theorem lawCalls_of {F : FuncId} {us : List T} {Fx : PIn (us.map .v) → Option (Ret (us.map .v) (RT.v .b).in)} (hc : Contract P F ⟨us.map .v, .v .b, Fx⟩) {x : PIn (us.map .v)} {y : Ret (us.map .v) (RT.v .b).in} (hy : Fx x = some y) (hr : retRes (us.map .v) y = true) : LawCalls P F us x := by
  intro W Z vs hz ha
  refine (hc.run W Z x vs [] y hy hz ha List.nodup_nil (fun _ q => by cases q)).mono fun e W' => ?_
  rintro ⟨v, Z', L1, rfl, hs, _, _, hret, _⟩
  have h1 : RepV P .b Z' W' (retRes (us.map .v) y) v := hret.1
  rw [hr] at h1
  obtain rfl := RepV.bool_inv h1
  exact ⟨rfl, hs⟩
end
theorem post_of_below {H : Type} {enc : TypeId × Value → H} {P : Program} {f : Func} {s : ChangeSpec} {apart fresh handsOn again : Bool} {W W' : World} {args : Array Value} {v : Value} {ds gs : List (DataW H)} {before pa pv : List MemPlace}
    (hW : DataW.Whole enc P f.params.toList s.vars apart W args.toList ds gs before)
    (hres : ∀ (b : Nat) (sp : Nat → Bool) (hd : Bool), DataW.TrodAll enc P W' b sp hd f.resultTypes.toList (v.resultList f.resultTypes.size) (s.fn H (ds ++ gs)).results [])
    (hargs : ∀ sp : Nat → Bool, (∀ p ∈ before, sp p.block = true) → DataW.TrodAll enc P W' 0 sp true f.params.toList args.toList (s.fn H (ds ++ gs)).args pa)
    (hvars : ∀ sp : Nat → Bool, (∀ p ∈ before, sp p.block = true) → DataW.TrodVars enc P W' sp s.vars (s.fn H (ds ++ gs)).vars pv)
    (hps : before = pa ++ pv) (hb : Below W.heap.size W W')
    (hok : ∀ (j : Nat) (t : TypeId) (r : Value), f.resultTypes[j]? = some t → (v.resultList f.resultTypes.size)[j]? = some r → Value.okWide P W' .any 0 t r) :
    s.post enc P f apart fresh handsOn again W args v W' := by
  have hlt : ∀ p ∈ before, p.block < W.heap.size := fun p hp => hW.lt p hp
  have hold : ∀ p ∈ before, (fun b => decide (b < W.heap.size)) p.block = true := fun p hp => by simpa using hlt p hp
  refine ⟨ds, gs, before, [], pa, pv, hW, hres _ _ _, hargs _ hold, hvars _ hold, World.keptBut_mono (fun p hp => ⟨hp, ?_⟩) (hb.frame (· ∈ before)), fun _ => ?_⟩
  · rw [hps, List.mem_append] at hp
    exact Or.inr hp
  · obtain ⟨_, _, _, _, _, hz, hn⟩ := hW
    refine ⟨hok, _, _, ([] ++ pa) ++ pv, ⟨[] ++ pa, pv, trodAll_append (hargs _ (fun _ _ => rfl)) (hres _ _ _), hvars _ (fun _ _ => rfl), rfl, ?_, ?_⟩, ?_⟩
    · intro b off hp
      have hin : MemPlace.cell b off ∈ before := by rw [hps]; simpa using hp
      rw [hb.frozen (hlt _ hin)]
      exact hz b off hin
    · intro ha
      have := hn ha
      rw [hps] at this
      simpa using this
    · intro p hp _
      rw [hps]
      simpa using hp
/-- A law over arguments that lead to no memory. -/
theorem law_ends {H : Type} {enc : TypeId × Value → H} {P : Program} {tab : Tab} (hE : ∀ id t, tabTy tab id = some t → Ent P tab id t) {F : FuncId} {fn : Func} {us : List T} {s : ChangeSpec} {tb : TypeId} {fresh handsOn again : Bool} (hts : fn.params.toList.map (tabTy tab) = us.map some) (hdat : us.all T.dat = true)
    (hrt : fn.resultTypes = #[tb]) (hub : P.underlying tb = some .bool) (hsv : s.vars = []) (hs : ∀ ds : List (DataW H), ds.length = us.length → (s.fn H (ds ++ [])).results = [.lit (.bool true)] ∧ (s.fn H (ds ++ [])).args = ds ∧ (s.fn H (ds ++ [])).vars = [])
    (hC : ∀ x, InRs us x → LawCalls P F us x) {W : World} {base : Nat} {args : Array Value} {ds gs : List (DataW H)} {before : List MemPlace} (hval : ∀ (j : Nat) t v, fn.params[j]? = some t → args[j]? = some v → Value.okWide P W .any base t v)
    (hW : DataW.Whole enc P fn.params.toList s.vars false W args.toList ds gs before) :
    Calls P F args W fun e W' => ∃ v, e = .returned v ∧ s.post enc P fn false fresh handsOn again W args v W' := by
  have hW' := hW
  obtain ⟨p, q, hA, hV, rfl, _, _⟩ := hW
  rw [hsv] at hV
  obtain ⟨rfl, rfl⟩ := trodVars_none hV
  obtain ⟨rfl, hl, hag, x, hx, hmem⟩ := args_rep hE fn.params.toList us hts hdat 0 _ true args.toList ds p hA (fun j t v hj hv => hval j t v (by simpa using hj) (by simpa using hv))
  have hcall := hC x hx W (fun b => b < W.heap.size) args.toList (fun b hb => hb) (hmem _ _)
  have e1 : args.toList.toArray = args := by simp
  rw [e1] at hcall
  refine hcall.mono fun e W' => ?_
  rintro ⟨rfl, hst⟩
  obtain ⟨s1, s2, s3⟩ := hs ds hl
  have hbl : Below W.heap.size W W' := ⟨hst.os, hst.tape, hst.output, hst.size, fun k hk => hst.block k hk (fun q => by cases q)⟩
  refine ⟨.bool true, rfl, post_of_below (pa := []) (pv := []) hW' (fun b sp hd => ?_) (fun sp _ => ?_) (fun sp _ => ?_) rfl hbl (ok_one hrt rfl (okWide_bool_mk hub _))⟩
  · rw [s1, hrt]; exact trodAll_mk1 (shut_bool hub _)
  · rw [s2]; exact hag _ _ _ _
  · rw [hsv, s3]; rfl
end Ev
