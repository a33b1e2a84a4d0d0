/-
  What is proved here: an evaluator of the model's code, and that what it comes to holds of the code. Conditions: those that each theorem names; none beyond.
-/
import Derived.Test.YtooepfkfickciaaDoorE1
import Derived.Deep.AppendSrc
import Derived.Laws.MakeOwn
import Derived.OrdersHeld
/- Parts put into values (3): the builds. -/
namespace Ev
open Go
section
variable {P : Program} {E : Env} {st : St} {a : Act} {w : World} {Z : Zn} {pv : Nat → Value} {bl : Nat → Option Nat} {R : Type} {K : AV → St → Option R} {r : R} {o : Oper}

theorem fill_foldl : ∀ (vs : List Value) (k off : Nat) (cs : Array Value), off + k + vs.length ≤ cs.size →
    ((vs.zipIdx k).foldl (fun cs (p : Value × Nat) => cs.setIfInBounds (off + p.2) p.1) cs).toList = splice cs.toList (off + k) vs
  | [], k, off, cs, _ => by simp [splice]
  | v :: vs, k, off, cs, h => by
    rw [List.zipIdx_cons, List.foldl_cons]
    simp only [List.length_cons] at h
    rw [fill_foldl vs (k + 1) off (cs.setIfInBounds (off + k) v) (by simp; omega)]
    apply List.ext_getElem?
    intro i
    rw [splice_get (by simp; omega), splice_get (by simp; omega)]
    simp only [Array.toList_setIfInBounds, List.length_cons, List.getElem?_set]
    by_cases h1 : i < off + k
    · rw [if_pos (show i < off + (k + 1) by omega), if_pos h1, if_neg (by omega)]
    · rw [if_neg h1]
      by_cases h2 : i = off + k
      · subst h2
        have hk : off + k < cs.toList.length := by simp; omega
        rw [if_pos (show off + k < off + (k + 1) by omega), if_pos rfl, if_pos hk, if_pos (by omega), Nat.sub_self]; rfl
      · rw [if_neg (show ¬ i < off + (k + 1) by omega), if_neg (show ¬ off + k = i by omega)]
        by_cases h3 : i < off + k + (vs.length + 1)
        · rw [if_pos h3, if_pos (by omega)]
          rw [show i - (off + k) = (i - (off + (k + 1))) + 1 by omega, List.getElem?_cons_succ]
        · rw [if_neg h3, if_neg (by omega)]
theorem fill_step {place : Nat → Option (Nat × Nat)} {cells : Array Value} {i off : Nat} {v : Value} {rest : List (Nat × Value)} {vs : List Value} (hp : place i = some (off, vs.length)) (hv : v.cells.toList = vs) (hf : off + vs.length ≤ cells.size) :
    ∃ cells', Instr.fill place cells ((i, v) :: rest) = Instr.fill place cells' rest ∧ cells'.toList = splice cells.toList off vs ∧ cells'.size = cells.size := by
  have hl : v.cells.size = vs.length := by rw [← hv]; simp
  refine ⟨v.cells.zipIdx.foldl (fun cs (p : Value × Nat) => cs.setIfInBounds (off + p.2) p.1) cells, ?_, ?_, ?_⟩
  · rw [Instr.fill]
    simp only [hp]
    rw [if_neg (by simp [hl]; omega)]
  · have := fill_foldl v.cells.toList 0 off cells (by simp [hl]; omega)
    rw [hv] at this
    rw [← Array.foldl_toList, Array.toList_zipIdx, hv]
    simpa using this
  · have := fill_foldl v.cells.toList 0 off cells (by simp [hl]; omega)
    rw [hv] at this
    have h2 : (v.cells.zipIdx.foldl (fun cs (p : Value × Nat) => cs.setIfInBounds (off + p.2) p.1) cells).toList.length = cells.toList.length := by
      rw [← Array.foldl_toList, Array.toList_zipIdx, hv, this, splice_len (by simp; omega)]
    simpa using h2

/-- The parts' values. -/
def VPs (c : Cx) : List (Nat × AV) → List (Nat × Value) → Prop
  | [], [] => True
  | p :: r, q :: s => p.1 = q.1 ∧ RAV c p.2 q.2 ∧ VPs c r s
  | _, _ => False
theorem Sim.parts (h : Sim P E st a w Z pv bl) : ∀ (ps : List (Nat × Operand)), VPs (cx P E st w Z pv bl) (ps.map fun p => (p.1, st.op p.2)) (ps.map fun p => (p.1, a.eval p.2))
  | [] => trivial
  | p :: ps => ⟨rfl, h.op p.2, Sim.parts h ps⟩
theorem VPs.ext {c c' : Cx} (h : Ext c c') : ∀ {ps : List (Nat × AV)} {vs : List (Nat × Value)}, VPs c ps vs → VPs c' ps vs
  | [], [], _ => trivial
  | _ :: _, _ :: _, ⟨a, b, d⟩ => ⟨a, b.ext h, d.ext h⟩

theorem mapM_places {fs : List Field} {sz : Field → Nat} (h : ∀ f ∈ fs, ∃ i, P.info? f.type = some i ∧ i.size = sz f) : fs.mapM (fun f => (P.info? f.type).map fun i => (f.offset, i.size)) = some (fs.map fun f => (f.offset, sz f)) := by
  induction fs with
  | nil => rfl
  | cons f fs ih =>
    obtain ⟨i, h1, h2⟩ := h f (List.mem_cons_self ..)
    rw [List.mapM_cons, ih (fun g hg => h g (List.mem_cons_of_mem _ hg)), h1]
    simp [h2]
theorem tchs_cons (st : St) (p : Nat × AV) (r : List (Nat × AV)) : tchs st ((p :: r).map (·.2)) = tch st p.2 ++ tchs st (r.map (·.2)) := rfl

theorem xParts_sound (hO : ∀ g o, E.orc g = some o → Contract P g o) (h : Sim P E st a w Z pv bl) {u : T} {n : Nat} : ∀ (ps : List (Nat × AV)) (vs : List (Nat × Value)) (l l' : List u.in) (cells : Array Value) (ids : List Nat),
    VPs (cx P E st w Z pv bl) ps vs → xParts E st u l ps = some l' → (∀ x ∈ tchs st (ps.map (·.2)), x ∈ ids) → l.length = n → Rows (RepC P u (Zt Z bl ids) w) l cells.toList → cells.size = n * u.sz →
    ∃ cells', Instr.fill (fun i => some (i * u.sz, u.sz)) cells vs = some cells' ∧ l'.length = n ∧ Rows (RepC P u (Zt Z bl ids) w) l' cells'.toList := by
  intro ps
  induction ps with
  | nil =>
    intro vs l l' cells ids hv hx _ hl hr _
    cases vs with
    | cons _ _ => cases hv
    | nil =>
      obtain rfl := Option.some.inj hx
      exact ⟨cells, rfl, hl, hr⟩
  | cons p ps ih =>
    intro vs l l' cells ids hv hx hids hl hr hsz
    cases vs with
    | nil => cases hv
    | cons q vs =>
      obtain ⟨j, av⟩ := p
      obtain ⟨j', v⟩ := q
      obtain ⟨rfl, h1, h2⟩ := hv
      simp only [xParts] at hx
      split at hx
      · rename_i hj
        have hj' : j < l.length := by simpa [Nat.blt_eq] using hj
        split at hx
        · rename_i b hb
          have hrep := sn_sound hO h h1 hb
          have hz : Zle (Zt Z bl (tch st av)) (Zt Z bl ids) := Zt.mono fun x hx => hids x (by rw [tchs_cons]; exact List.mem_append_left _ hx)
          have hrep' := hrep.2.mono hz (Agree.refl _ _)
          have hlen := RepC.length u b _ hrep'
          have hfit : j * u.sz + v.cells.toList.length ≤ cells.size := by
            rw [hlen, hsz, ← Nat.succ_mul]; exact Nat.mul_le_mul_right _ (by omega)
          obtain ⟨cells', e1, e2, e3⟩ := fill_step (place := fun i => some (i * u.sz, u.sz)) (cells := cells) (i := j) (off := j * u.sz) (v := v) (rest := vs) (vs := v.cells.toList) (by rw [hlen]) rfl hfit
          have hr' := Rows.set RepC.len hrep' j hr hj'
          rw [← e2] at hr'
          obtain ⟨c2, g1, g2, g3⟩ := ih vs (l.set j b) l' cells' ids h2 hx (fun x hx => hids x (by rw [tchs_cons]; exact List.mem_append_right _ hx)) (by simpa using hl) hr' (e3.trans hsz)
          exact ⟨c2, e1.trans g1, g2, g3⟩
        · cases hx
      · cases hx
theorem sParts_sound (hO : ∀ g o, E.orc g = some o → Contract P g o) (h : Sim P E st a w Z pv bl) {t : T} {places : List (Nat × Nat)} (hpl : ∀ j pl, places[j]? = some pl → ∃ q, tyAt t [.f j] = some q ∧ offT t [.f j] = some pl.1 ∧ pl.2 = q.sz) (hpl2 : ∀ j q, fT t j = some q → ∃ pl, places[j]? = some pl) :
    ∀ (ps : List (Nat × AV)) (vs : List (Nat × Value)) (av : AV) (q : AV × List Nat) (cells : Array Value) (ids : List Nat),
    VPs (cx P E st w Z pv bl) ps vs → setParts E st t av ps = some q → (∀ x ∈ q.2, x ∈ ids) → RA (cx P E (st.ro ids) w (Zt Z bl ids) pv (blr bl ids)) t av cells.toList →
    ∃ cells', Instr.fill (places[·]?) cells vs = some cells' ∧ RA (cx P E (st.ro ids) w (Zt Z bl ids) pv (blr bl ids)) t q.1 cells'.toList := by
  intro ps
  induction ps with
  | nil =>
    intro vs av q cells ids hv hx _ hr
    cases vs with
    | cons _ _ => cases hv
    | nil =>
      obtain rfl := Option.some.inj hx
      exact ⟨cells, rfl, hr⟩
  | cons p ps ih =>
    intro vs av q cells ids hv hx hids hr
    cases vs with
    | nil => cases hv
    | cons pv' vs =>
      obtain ⟨j, wv⟩ := p
      obtain ⟨j', v⟩ := pv'
      obtain ⟨rfl, h1, h2⟩ := hv
      simp only [setParts] at hx
      split at hx
      · rename_i av' hav
        split at hx
        · rename_i q' hq'
          obtain rfl := Option.some.inj hx
          have hx' := h.extRo ids
          -- the field's place
          have hpl3 : ∃ pl, places[j]? = some pl := by
            cases av with
            | agg fs =>
              simp only [setA] at hav
              split at hav
              · rename_i hft; exact hpl2 j _ hft
              · cases hav
            | val u x =>
              simp only [setA] at hav
              split at hav
              · rename_i e
                subst e
                unfold setV at hav
                split at hav
                · rename_i y hy
                  have : ∃ q, fT u j = some q := by
                    clear hr hq' hav
                    revert hy
                    generalize (fun u => sn E st u wv) = σ
                    intro hy
                    have key : ∀ (j : Nat) (u : T) (x y : u.in), setT σ u x [.f j] = some y → ∃ q, fT u j = some q := by
                      intro j
                      induction j with
                      | zero => intro u x y hy; cases u <;> simp [setT] at hy <;> exact ⟨_, rfl⟩
                      | succ j ih =>
                        intro u x y hy
                        cases u <;> simp only [setT] at hy <;> first | cases hy | skip
                        split at hy
                        · rename_i v hv; exact ih _ _ _ hv
                        · cases hy
                    exact key j u x y hy
                  obtain ⟨q, hq⟩ := this
                  exact hpl2 j q hq
                · cases hav
              · cases hav
            | _ => simp only [setA] at hav <;> cases hav
          obtain ⟨pl, hpl3⟩ := hpl3
          obtain ⟨u, g1, g2, g3⟩ := hpl j pl hpl3
          have hwv := h1.ext hx'
          have hcf : ∀ t, cf E st t wv = true → RA (cx P E (st.ro ids) w (Zt Z bl ids) pv (blr bl ids)) t wv v.cells.toList := fun t hc => (conf_sound h hc h1).1.ext hx'
          have hsn : keeps av [.f j] = false → ∀ u q, sn E st u wv = some q → RepC P u (Zt Z bl ids) w q v.cells.toList := by
            intro hk u q hq
            have hrep := sn_sound hO h h1 hq
            refine hrep.2.mono (Zt.mono fun x hx => hids x ?_) (Agree.refl _ _)
            simp only [hk]
            exact List.mem_append_left _ hx
          obtain ⟨r1, r2, hvlen⟩ := setA_sound (c := cx P E (st.ro ids) w (Zt Z bl ids) pv (blr bl ids)) rfl hcf [.f j] t av av' cells.toList u pl.1 hsn hav g1 g2 hr
          obtain ⟨cells', e1, e2, e3⟩ := fill_step (place := (places[·]?)) (cells := cells) (i := j) (off := pl.1) (v := v) (rest := vs) (vs := v.cells.toList) (by rw [hvlen, ← g3]; exact hpl3) rfl (by rw [hvlen]; simpa using r2)
          rw [← e2] at r1
          obtain ⟨c2, k1, k2⟩ := ih vs av' q' cells' ids h2 hq' (fun x hx => hids x (List.mem_append_right _ hx)) r1
          exact ⟨c2, e1.trans k1, k2⟩
        · cases hx
      · cases hx

theorem zeroRow (ty : TyOK P E) {id : TypeId} {n : Nat} {u : T} (h : E.ty id = some (.ar n u)) (Z : Zn) (w : World) : ∃ e it ie z, P.underlying id = some (.array n e) ∧ P.info? id = some it ∧ P.info? e = some ie ∧ ie.size = u.sz ∧ it.zero = some z ∧ z.cells.size = n * u.sz ∧ Rows (RepC P u Z w) (List.replicate n u.zero) z.cells.toList := by
  obtain ⟨e, hun, hu⟩ := ty.tar id n u h
  obtain ⟨it, z, h1, h2, _, h4, _, h6⟩ := ty.info id _ h
  obtain ⟨ie, z', k1, k2, _⟩ := ty.info e u hu
  have hz := zero_rep (P := P) (.ar n u) (ty.plain id _ h) Z w
  refine ⟨e, it, ie, z, hun, h1, k1, k2, h4, ?_, by rw [h6]; exact hz.2⟩
  have := RepC.length _ _ _ hz
  rw [← h6, Array.length_toList] at this
  exact this
theorem build_quiet (ty : TyOK P E) (hO : ∀ g o, E.orc g = some o → Contract P g o) (h : Sim P E st a w Z pv bl) {t : TypeId} {ps : Array (Nat × Operand)} (hop : o.op = .build t ps) (he : evOp E o st K = some r) : Quiet P E st a w Z bl o K r := by
  simp only [evOp, hop] at he
  have hps := h.parts ps.toList
  have hexec : ∀ {cells : Array Value}, P.built t (ps.toList.map fun p => (p.1, a.eval p.2)) = some cells → Yld P st a o w Z bl (.agg cells) := by
    intro cells hb w' hk
    simp only [execOp, hop]
    have := run_build (P := P) w' t (ps.map fun p => (p.1, a.eval p.2)) cells (by simpa using hb)
    rw [Sem.run_bind, this]; rfl
  unfold evBuild at he
  split at he
  · rename_i n u hty
    split at he
    · rename_i l hl
      obtain ⟨e, it, ie, z, h1, h2, h3, h4, h5, h6, h7⟩ := zeroRow (P := P) ty hty (Zt Z bl (tchs st ((ps.toList.map fun p => (p.1, st.op p.2)).map (·.2)))) w
      obtain ⟨cells, e1, e2, e3⟩ := xParts_sound hO h (n := n) _ _ _ l z.cells _ hps hl (fun x hx => hx) List.length_replicate h7 h6
      have hb : P.built t (ps.toList.map fun p => (p.1, a.eval p.2)) = some cells := by
        unfold Program.built
        rw [h2, h1]
        simp only [h5, h3, h4]
        exact e1
      exact ⟨_, .val (.ar n u) l, _, _, _, _, hexec hb, h.ro _, Tr.ro _ _ _ _, .val ⟨rfl, e2, e3⟩, he, Keep.ro _ _ _ _⟩
    · cases he
  · rename_i t0 hna hty
    split at he
    · rename_i hagg
      split at he
      · rename_i wv st1 hz
        split at he
        · rename_i q hq
          obtain ⟨t1, pv1, bl1, b0, b1, b2, b3, b4, b5⟩ := zeroAV_sound ty 24 t st st1 wv pv bl hz h
          obtain rfl : t1 = t0 := Option.some.inj (b0.symm.trans hty)
          obtain ⟨fs, hun⟩ := ty.stc t t1 hty hagg hna
          obtain ⟨it, z, i1, i2, _, i4, i5, i6⟩ := ty.info t t1 hty
          let szf : Field → Nat := fun f => match E.ty f.type with
            | some q => q.sz
            | none => 0
          have hpl : ∀ f ∈ fs.toList, ∃ i, P.info? f.type = some i ∧ i.size = szf f := by
            intro f hf
            obtain ⟨j, hj⟩ := List.mem_iff_getElem?.1 hf
            obtain ⟨q, q1, _, _⟩ := ty.stn t t1 fs hty hun j f (by simpa using hj)
            obtain ⟨i, z', k1, k2, _⟩ := ty.info f.type q q1
            exact ⟨i, k1, by simp only [szf, q1]; exact k2⟩
          have hplaces := mapM_places hpl
          have hp1 : ∀ j pl, ((fs.toList.map fun f => (f.offset, szf f)))[j]? = some pl → ∃ q, tyAt t1 [.f j] = some q ∧ offT t1 [.f j] = some pl.1 ∧ pl.2 = q.sz := by
            intro j pl hj
            rw [List.getElem?_map] at hj
            cases hf : fs.toList[j]? with
            | none => rw [hf] at hj; cases hj
            | some f =>
              rw [hf] at hj
              obtain rfl := Option.some.inj hj
              obtain ⟨q, q1, q2, q3⟩ := ty.stn t t1 fs hty hun j f (by simpa using hf)
              exact ⟨q, q2, q3, by simp only [szf, q1]⟩
          have hp2 : ∀ j q, fT t1 j = some q → ∃ pl, ((fs.toList.map fun f => (f.offset, szf f)))[j]? = some pl := by
            intro j q hj
            have hq' : tyAt t1 [.f j] = some q := by
              have : ∀ (j : Nat) (t : T), tyAt t [.f j] = fT t j := by
                intro j
                induction j with
                | zero =>
                  intro t
                  cases t <;> first | rfl | skip
                  rename_i x y
                  show tyAt x [] = some x
                  cases x <;> rfl
                | succ j ih =>
                  intro t
                  cases t <;> first | rfl | exact ih _
              rw [this]; exact hj
            obtain ⟨fs', fd, g1, g2, _⟩ := ty.st t t1 j q hty hq'
            have : fs' = fs := by rw [hun] at g1; cases g1; rfl
            subst this
            refine ⟨(fd.offset, szf fd), ?_⟩
            rw [List.getElem?_map]
            have : fs'.toList[j]? = some fd := by simpa using g2
            rw [this]; rfl
          have hx' := b1.extRo q.2
          have hvp : VPs (cx P E st1 w Z pv1 bl1) (ps.toList.map fun p => (p.1, st.op p.2)) (ps.toList.map fun p => (p.1, a.eval p.2)) := hps.ext b3
          obtain ⟨cells, e1, e2⟩ := sParts_sound hO b1 hp1 hp2 _ _ wv q z.cells q.2 hvp hq (fun x hx => hx) (by rw [i6]; exact b2.ext hx')
          have hb : P.built t (ps.toList.map fun p => (p.1, a.eval p.2)) = some cells := by
            unfold Program.built
            rw [i1, hun]
            simp only [i4, hplaces]
            simpa using e1
          refine ⟨_, _, _, _, _, _, hexec hb, b1.ro q.2, b4.trans (Tr.ro _ _ _ _), ?_, he, b5.trans (Keep.ro _ _ _ _) (Zt.le _ _ _)⟩
          have := RA.toV e2
          unfold ofCells at this
          rw [if_pos hagg] at this
          simpa using this
        · cases he
      · cases he
    · cases he
  · cases he
end
end Ev
/- Operations that act (1): new memory. -/
namespace Ev
open Go
section
variable {P : Program} {E : Env} {st : St} {a : Act} {w : World} {Z : Zn} {pv : Nat → Value} {bl : Nat → Option Nat} {R : Type} {K : AV → St → Option R} {r : R} {o : Oper}

/-- Nothing that stood has turned but what is written; objects stay. -/
def Wrote (bl : Nat → Option Nat) (w : World) (Z' : Zn) (bl' : Nat → Option Nat) (w' : World) (wr : List Nat) : Prop :=
  (∀ b, b < w.heap.size → (∀ o ∈ wr, bl o ≠ some b) → w'.heap[b]? = w.heap[b]?) ∧ Keep bl Z' bl' wr
theorem Wrote.kept {bl bl' : Nat → Option Nat} {w w' : World} {Z' : Zn} {wr : List Nat} (k : Kept w w') (h : Keep bl Z' bl' wr) : Wrote bl w Z' bl' w' wr := ⟨fun b hb _ => k.2.2.2.2 b hb, h⟩
def Loud (P : Program) (E : Env) (st : St) (a : Act) (w : World) (Z : Zn) (bl : Nat → Option Nat) {R : Type} (o : Oper) (K : AV → St → Option R) (r : R) : Prop :=
  ∀ (next : Act → World → Prop) (Q : Exit → Act → World → Prop),
    (∀ v av st' w' Z' pv' bl', Sim P E st' a w' Z' pv' bl' → Tr w Z bl w' Z' bl' → RAV (cx P E st' w' Z' pv' bl') av v → K av st' = some r → Wrote bl w Z' bl' w' (wrIds E st o.op) → next (a.put o.dst v) w') → o.wp P a w next Q
theorem Quiet.loud (h : Quiet P E st a w Z bl o K r) : Loud P E st a w Z bl o K r := by
  intro next Q hn
  obtain ⟨v, av, st', Z', pv', bl', h1, h2, h3, h4, h5, h6⟩ := h
  unfold Oper.wp
  rw [h1 w (KR.refl _ _ _ _)]
  exact hn v av st' w Z' pv' bl' h2 h3 h4 h5 (.kept (Kept.refl w) (h6.mono fun _ q => by cases q))
theorem Loud.value {v : Value} {av : AV} {st' : St} {w' : World} {Z' : Zn} {pv' : Nat → Value} {bl' : Nat → Option Nat} (he : (execOp a.eval o).run P w = .ok (.value v) w')
    (h1 : Sim P E st' a w' Z' pv' bl') (h2 : Tr w Z bl w' Z' bl') (h3 : RAV (cx P E st' w' Z' pv' bl') av v) (h4 : K av st' = some r) (h5 : Wrote bl w Z' bl' w' (wrIds E st o.op)) : Loud P E st a w Z bl o K r := by
  intro next Q hn
  unfold Oper.wp
  rw [he]
  exact hn v av st' w' Z' pv' bl' h1 h2 h3 h4 h5
theorem Loud.skip {st' : St} {w' : World} {Z' : Zn} {pv' : Nat → Value} {bl' : Nat → Option Nat} (he : (execOp a.eval o).run P w = .ok .skip w')
    (h1 : Sim P E st' a w' Z' pv' bl') (h2 : Tr w Z bl w' Z' bl') (h4 : K .dead st' = some r) (h5 : Wrote bl w Z' bl' w' (wrIds E st o.op)) : Loud P E st a w Z bl o K r := by
  intro next Q hn
  unfold Oper.wp
  rw [he]
  exact hn undef .dead st' w' Z' pv' bl' h1 h2 .dead h4 h5

theorem kept_alloc (w : World) (ob : Obj) : Kept w (w.alloc ob) := ⟨rfl, rfl, rfl, by show w.heap.size ≤ (w.heap.push ob).size; simp, fun b hb => heap_alloc_old w ob b hb⟩
theorem Tr.kept {w w' : World} (k : Kept w w') (Z : Zn) (bl : Nat → Option Nat) : Tr w Z bl w' Z bl :=
  ⟨k.1, k.2.1, k.2.2.1, k.2.2.2.1, fun b hb _ => k.2.2.2.2 b hb, fun _ h => h, fun _ h => .inl h, fun o _ h => .inl ⟨o, h⟩⟩
theorem Tr.newB {w w' : World} (k : Kept w w') (Z : Zn) (bl : Nat → Option Nat) (n b0 : Nat) (hb : w.heap.size ≤ b0) : Tr w Z bl w' Z (upd bl n (some b0)) :=
  ⟨k.1, k.2.1, k.2.2.1, k.2.2.2.1, fun b hb _ => k.2.2.2.2 b hb, fun _ h => h, fun _ h => .inl h, fun o b h => by
    by_cases he : o = n
    · subst he; rw [upd_same] at h; cases h; exact .inr hb
    · rw [upd_ne _ _ he] at h; exact .inl ⟨o, h⟩⟩
theorem alloc_new (w : World) (ob : Obj) : (w.alloc ob).heap[w.heap.size]? = some ob := heap_alloc_new w ob
theorem alloc_size (w : World) (ob : Obj) : (w.alloc ob).heap.size = w.heap.size + 1 := by show (w.heap.push ob).size = _; simp

/-- A new variable. -/
theorem Sim.newBox (h : Sim P E st a w Z pv bl) {e : TypeId} {t : T} {av : AV} {cs : Array Value} (he : E.ty e = some t) (hr : RA (cx P E st w Z pv bl) t av cs.toList) :
    ∃ pv' bl', Sim P E (st.new (.box e av)) a (w.alloc (.cells cs e)) Z pv' bl' ∧ Tr w Z bl (w.alloc (.cells cs e)) Z bl' ∧
      RAV (cx P E (st.new (.box e av)) (w.alloc (.cells cs e)) Z pv' bl') (.ptr st.nx []) (.pointer (some ⟨w.heap.size, 0, none⟩)) ∧ ∀ Z' wr, Keep bl Z' bl' wr := by
  have k := kept_alloc w (.cells cs e)
  have h1 := h.kept k
  have hx0 : Ext (cx P E st w Z pv bl) (cx P E st (w.alloc (.cells cs e)) Z pv bl) := ⟨rfl, rfl, fun _ h => h, k.agree h.zok, Nat.le_refl _, fun o e u l q _ h => ⟨rfl, l, q, h⟩, fun o e x _ h => ⟨rfl, x, h⟩, fun o m q v l r _ h => ⟨rfl, l, r, h⟩⟩
  have hx := h1.extNew (.box e av) undef (some w.heap.size)
  refine ⟨upd pv st.nx undef, upd bl st.nx (some w.heap.size), h1.new (fun b hb => ?_) ⟨t, w.heap.size, cs, he, upd_same _ _ _, alloc_new w _, (hr.ext hx0).ext hx⟩, Tr.newB k Z bl _ _ (Nat.le_refl _), .ref rfl ⟨Nat.lt_succ_self _, fun e2 x2 hh => ?_⟩, fun _ _ => Keep.new h _ _ _⟩
  · cases hb
    refine ⟨fun o ho => ?_, fun q => ?_, ?_⟩
    · have := (h.own o _ ho).2; omega
    · have := h.zok _ q; omega
    · rw [alloc_size]; omega
  · have hh' : (st.new (.box e av)).hp st.nx = _ := hh
    have e2' : (st.new (.box e av)).hp st.nx = .box e av := upd_same _ _ _
    rw [e2'] at hh'
    cases hh'
    exact ⟨w.heap.size, t, 0, upd_same _ _ _, he, by cases t <;> rfl, rfl⟩
/-- A new row. -/
theorem Sim.newArr (h : Sim P E st a w Z pv bl) {w' : World} (k : Kept w w') {e : TypeId} {u : T} {l : List u.in} {q : Nat} (hq : q ≤ 1) (he : E.ty e = some u) {xs : List Value} (hr : Rows (RepC P u Z w) l xs) {cur : Array Value} {fr : Nat × Nat} {cap : Nat}
    (hg : w'.heap[w.heap.size]? = some (.cells cur e fr)) (hs : w'.heap.size = w.heap.size + 1) (h1 : l.length ≤ cap) (h2 : cap ≤ maxLen) (h3 : cur.size = cap * u.sz) (h4 : cur.toList.take xs.length = xs) (h5 : fr = (0, 0) ∨ (q ≠ 0 ∧ cur.size ≤ fr.1)) :
    ∃ pv' bl', Sim P E (st.new (.arr e u l q)) a w' Z pv' bl' ∧ Tr w Z bl w' Z bl' ∧ RAV (cx P E (st.new (.arr e u l q)) w' Z pv' bl') (.sl st.nx) (.slice (some ⟨w.heap.size, 0, none⟩) l.length cap) ∧ ∀ Z' wr, Keep bl Z' bl' wr := by
  have hs1 := h.kept k
  have hagr : Agree Z w w' := k.agree h.zok
  refine ⟨upd pv st.nx (.slice (some ⟨w.heap.size, 0, none⟩) l.length cap), upd bl st.nx (some w.heap.size), hs1.new (fun b hb => ?_) ⟨he, .inl ⟨hq, ?_, ?_⟩⟩, Tr.newB k Z bl _ _ (Nat.le_refl _), .ref rfl ⟨Nat.lt_succ_self _, fun e2 u2 l2 k2 hh => (upd_same _ _ _).symm⟩, fun _ _ => Keep.new h _ _ _⟩
  · cases hb
    refine ⟨fun o ho => ?_, fun q => ?_, ?_⟩
    · have := (h.own o _ ho).2; omega
    · have := h.zok _ q; omega
    · rw [hs]; omega
  · show Own P Z w' e u l q (upd pv st.nx _ st.nx)
    rw [upd_same]
    exact ⟨xs, hr.imp fun _ _ p => p.mono (fun _ h => h) hagr, .inr ⟨w.heap.size, cap, cur, fr, rfl, hg, h1, h2, h3, h4, h5⟩⟩
  · show upd bl st.nx _ st.nx = (upd pv st.nx _ st.nx).ownBlock
    rw [upd_same, upd_same]; rfl
/-- A new map. -/
theorem Sim.newMap (h : Sim P E st a w Z pv bl) {m : TypeId} {k v : T} (he : E.ty m = some (.mp k v)) :
    ∃ pv' bl', Sim P E (st.new (.map m k v [] false)) a (w.alloc (.map #[] 0)) Z pv' bl' ∧ Tr w Z bl (w.alloc (.map #[] 0)) Z bl' ∧
      RAV (cx P E (st.new (.map m k v [] false)) (w.alloc (.map #[] 0)) Z pv' bl') (.mp st.nx) (.map (some w.heap.size)) ∧ ∀ Z' wr, Keep bl Z' bl' wr := by
  have hk := kept_alloc w (.map #[] 0)
  have h1 := h.kept hk
  refine ⟨upd pv st.nx (.map (some w.heap.size)), upd bl st.nx (some w.heap.size), h1.new (fun b hb => ?_) ⟨he, .inl ⟨rfl, w.heap.size, #[], 0, upd_same _ _ _, upd_same _ _ _, alloc_new w _, trivial⟩⟩, Tr.newB hk Z bl _ _ (Nat.le_refl _), .ref rfl ⟨Nat.lt_succ_self _, fun _ _ _ _ _ hh => (upd_same _ _ _).symm⟩, fun _ _ => Keep.new h _ _ _⟩
  cases hb
  refine ⟨fun o ho => ?_, fun q => ?_, ?_⟩
  · have := (h.own o _ ho).2; omega
  · have := h.zok _ q; omega
  · rw [alloc_size]; omega

theorem run_newObj (w : World) (ob : Obj) : (newObj ob).run P w = .ok w.heap.size (w.alloc ob) := rfl
theorem alloc_loud (ty : TyOK P E) (h : Sim P E st a w Z pv bl) {e : TypeId} (hop : o.op = .alloc e) (he : evOp E o st K = some r) : Loud P E st a w Z bl o K r := by
  simp only [evOp, hop] at he
  split at he
  · rename_i av st1 hz
    obtain ⟨t, pv1, bl1, b0, b1, b2, b3, b4, b5⟩ := zeroAV_sound ty 24 e st st1 av pv bl hz h
    obtain ⟨i, z, i1, i2, _, i4, i5, i6⟩ := ty.info e t b0
    obtain ⟨pv', bl', q1, q2, q3, q4⟩ := b1.newBox (cs := z.cells) b0 (by rw [i6]; exact b2)
    refine Loud.value ?_ q1 (b4.trans q2) q3 he (.kept (kept_alloc w _) ((b5.mono (fun _ q => by cases q)).trans (q4 _ _) (fun _ h => h)))
    simp only [execOp, hop, Instr.alloc]
    simp [zeroValue, typeInfo, i1, i4, newVar, newRow]
  · cases he
theorem box_loud (h : Sim P E st a w Z pv bl) {e : TypeId} {x : Operand} (hop : o.op = .box e x) (he : evOp E o st K = some r) : Loud P E st a w Z bl o K r := by
  simp only [evOp, hop] at he
  split at he
  · rename_i t ht
    split at he
    · rename_i hc
      obtain ⟨h1, _⟩ := conf_sound h hc (h.op x)
      obtain ⟨pv', bl', q1, q2, q3, q4⟩ := h.newBox ht h1
      refine Loud.value ?_ q1 q2 q3 he (.kept (kept_alloc w _) (q4 _ _))
      simp only [execOp, hop, Instr.box]
      simp [newVar, newRow]
    · cases he
  · cases he
theorem makeMap_loud (_ty : TyOK P E) (h : Sim P E st a w Z pv bl) {t : TypeId} (hop : o.op = .makeMap t none) (he : evOp E o st K = some r) : Loud P E st a w Z bl o K r := by
  simp only [evOp, hop] at he
  split at he
  · rename_i k v ht
    obtain ⟨pv', bl', q1, q2, q3, q4⟩ := h.newMap ht
    refine Loud.value ?_ q1 q2 q3 he (.kept (kept_alloc w _) (q4 _ _))
    simp only [execOp, hop, Instr.makeMap]
    simp
  · cases he
end
end Ev
/- Operations that act (2): rows. -/
namespace Ev
open Go
section
variable {P : Program} {E : Env} {st : St} {a : Act} {w : World} {Z : Zn} {pv : Nat → Value} {bl : Nat → Option Nat} {R : Type} {K : AV → St → Option R} {r : R} {o : Oper}

theorem flat_rel : ∀ (t : T), t.flat = true → ∀ {Z Z' : Zn} {w w' : World} {x : t.in} {cs : List Value}, ((rel P t).1 Z w x cs → (rel P t).1 Z' w' x cs) ∧ ((rel P t).2 Z w x cs → (rel P t).2 Z' w' x cs) := by
  intro t
  induction t with
  | i k => intro _ Z Z' w w' x cs; exact ⟨id, id⟩
  | b => intro _ Z Z' w w' x cs; exact ⟨id, id⟩
  | s => intro _ Z Z' w w' x cs; exact ⟨id, id⟩
  | un => intro _ Z Z' w w' x cs; exact ⟨id, id⟩
  | er => intro _ Z Z' w w' x cs; exact ⟨id, id⟩
  | pr a bb iha ihb =>
    intro hf Z Z' w w' x cs
    have hf' : a.flat = true ∧ bb.flat = true := by simpa [T.flat] using hf
    refine ⟨fun ⟨c1, c2, e, h1, h2⟩ => ⟨c1, c2, e, (iha hf'.1).1 h1, (ihb hf'.2).1 h2⟩, fun ⟨v, c, q, e, h0, h1, h2⟩ => ⟨v, c, q, e, h0, (iha hf'.1).1 h1, (ihb hf'.2).2 h2⟩⟩
  | ar n t ih => intro hf Z Z' w w' x cs; exact ⟨fun h => ⟨h.1, h.2.imp fun _ _ q => (ih hf).1 q⟩, id⟩
  | tu t ih => intro hf Z Z' w w' x cs; exact ⟨fun ⟨vs, e, h⟩ => ⟨vs, e, (ih hf).2 h⟩, id⟩
  | _ => intro hf; simp [T.flat] at hf
theorem flat_rep (t : T) (hf : t.flat = true) {Z Z' : Zn} {w w' : World} {x : t.in} {cs : List Value} (h : RepC P t Z w x cs) : RepC P t Z' w' x cs := (flat_rel t hf).1 h
theorem plain_one : ∀ (t : T), t.plain = true → ∀ {Z : Zn} {w : World} {x : t.in} {cs : List Value}, RepC P t Z w x cs → ∀ v ∈ cs, v.oneCell' = true := by
  intro t
  induction t with
  | i k => intro _ Z w x cs h v hv; rw [h.1] at hv; simp at hv; subst hv; rfl
  | b => intro _ Z w x cs h v hv; rw [show cs = [.bool x] from h] at hv; simp at hv; subst hv; rfl
  | s => intro _ Z w x cs h v hv; obtain ⟨s, rfl, _⟩ := h; simp at hv; subst hv; rfl
  | un => intro _ Z w x cs h v hv; rw [show cs = [] from h] at hv; cases hv
  | er => intro _ Z w x cs h v hv; rcases h with ⟨_, rfl⟩ | ⟨_, t, u, rfl⟩ <;> (simp at hv; subst hv; rfl)
  | pr a bb iha ihb =>
    intro hp Z w x cs h v hv
    have hp' : a.plain = true ∧ bb.plain = true := by simpa [T.plain] using hp
    obtain ⟨c1, c2, rfl, h1, h2⟩ := h
    rcases List.mem_append.1 hv with hv | hv
    · exact iha hp'.1 h1 v hv
    · exact ihb hp'.2 h2 v hv
  | ar n t ih =>
    intro hp Z w x cs h v hv
    obtain ⟨hlen, hr⟩ := h
    clear hlen
    induction hr with
    | nil => cases hv
    | cons hc _ ih2 =>
      rcases List.mem_append.1 hv with hv | hv
      · exact ih hp hc v hv
      · exact ih2 hv
  | sl t _ => intro _ Z w x cs h v hv; obtain ⟨a, c, rfl, _⟩ := h; simp at hv; subst hv; rfl
  | mp k v _ _ => intro _ Z w x cs h v hv; obtain ⟨q, rfl, _⟩ := h; simp at hv; subst hv; rfl
  | pt t _ => intro _ Z w x cs h v hv; rcases h with ⟨_, rfl⟩ | ⟨_, _, _, _, _, rfl, _⟩ <;> (simp at hv; subst hv; rfl)
  | fn x y _ _ => intro hp; simp [T.plain] at hp
  | tu t _ => intro hp; simp [T.plain] at hp
theorem Rows.one {t : T} (hp : t.plain = true) {Z : Zn} {w : World} : ∀ {l : List t.in} {cs : List Value}, Rows (RepC P t Z w) l cs → ∀ v ∈ cs, v.oneCell' = true := by
  intro l cs h
  induction h with
  | nil => intro v hv; cases hv
  | cons hc _ ih =>
    intro v hv
    rcases List.mem_append.1 hv with hv | hv
    · exact plain_one t hp hc v hv
    · exact ih v hv
theorem tyAt_plain : ∀ (p : List Stp) (t u : T), tyAt t p = some u → t.plain = true → u.plain = true := by
  intro p
  induction p with
  | nil =>
    intro t u h1 hp
    have e1 : t = u := by cases t <;> simpa [tyAt] using h1
    rw [← e1]; exact hp
  | cons s p ih =>
    have hf : ∀ (n : Nat) (t u : T), tyAt t (.f n :: p) = some u → t.plain = true → u.plain = true := by
      intro n
      induction n with
      | zero =>
        intro t u h1 hp
        cases t <;> simp only [tyAt] at h1 <;> first | cases h1 | skip
        have hp' := (Bool.and_eq_true _ _ ▸ hp : _ ∧ _)
        exact ih _ u h1 hp'.1
      | succ n ihn =>
        intro t u h1 hp
        cases t <;> simp only [tyAt] at h1 <;> first | cases h1 | skip
        have hp' := (Bool.and_eq_true _ _ ▸ hp : _ ∧ _)
        exact ihn _ u h1 hp'.2
    intro t u h1 hp
    cases s with
    | f n => exact hf n t u h1 hp
    | x i =>
      cases t <;> simp only [tyAt] at h1 <;> first | cases h1 | skip
      exact ih _ u h1 hp
theorem setT_val {σ : (u : T) → Option u.in} : ∀ (p : List Stp) (t u : T) (x y : t.in), setT σ t x p = some y → tyAt t p = some u → ∃ q, σ u = some q := by
  intro p
  induction p with
  | nil =>
    intro t u x y hs h1
    have e1 : t = u := by cases t <;> simpa [tyAt] using h1
    subst e1
    have hs' : σ t = some y := by cases t <;> simpa [setT] using hs
    exact ⟨y, hs'⟩
  | cons s p ih =>
    have hf : ∀ (n : Nat) (t u : T) (x y : t.in), setT σ t x (.f n :: p) = some y → tyAt t (.f n :: p) = some u → ∃ q, σ u = some q := by
      intro n
      induction n with
      | zero =>
        intro t u x y hs h1
        cases t <;> simp only [tyAt] at h1 <;> first | cases h1 | skip
        simp only [setT] at hs
        split at hs
        · rename_i v hv; exact ih _ u _ v hv h1
        · cases hs
      | succ n ihn =>
        intro t u x y hs h1
        cases t <;> simp only [tyAt] at h1 <;> first | cases h1 | skip
        simp only [setT] at hs
        split at hs
        · rename_i v hv; exact ihn _ u _ v hv h1
        · cases hs
    intro t u x y hs h1
    cases s with
    | f n => exact hf n t u x y hs h1
    | x i =>
      cases t <;> simp only [tyAt] at h1 <;> first | cases h1 | skip
      simp only [setT] at hs
      split at hs
      · rename_i v hv; exact ih _ u _ v hv h1
      · cases hs
theorem tyAt_f (p : List Stp) : ∀ (n : Nat) (t t' : T), fT t n = some t' → tyAt t (.f n :: p) = tyAt t' p := by
  intro n
  induction n with
  | zero =>
    intro t t' h
    cases t <;> simp [fT] at h
    subst h; rfl
  | succ n ih =>
    intro t t' h
    cases t <;> simp only [fT] at h <;> first | cases h | skip
    exact ih _ t' h
theorem setA_val {wv : AV} : ∀ (p : List Stp) (t u : T) (av av' : AV), setA E st t av p wv = some av' → tyAt t p = some u → cf E st u wv = true ∨ ∃ q, sn E st u wv = some q := by
  intro p
  induction p with
  | nil =>
    intro t u av av' hs h1
    have e1 : t = u := by cases t <;> simpa [tyAt] using h1
    subst e1
    simp only [setA] at hs
    split at hs
    · rename_i hc; exact .inl hc
    · cases hs
  | cons s p ih =>
    intro t u av av' hs h1
    cases av with
    | val u0 x =>
      simp only [setA] at hs
      split at hs
      · rename_i e
        subst e
        unfold setV at hs
        split at hs
        · rename_i y hy; exact .inr (setT_val _ _ u _ _ hy h1)
        · cases hs
      · cases hs
    | agg fs =>
      cases s with
      | x i => simp only [setA] at hs; cases hs
      | f n =>
        simp only [setA] at hs
        split at hs
        · rename_i v t' hv' ht'
          split at hs
          · rename_i v' hs'
            rw [tyAt_f p n t t' ht'] at h1
            exact ih t' u v v' hs' h1
          · cases hs
        · cases hs
    | _ => cases s <;> simp only [setA] at hs <;> cases hs
theorem nilV_one {k : Nat} {v : Value} (h : nilV k v) : v.oneCell' = true := by
  unfold nilV at h
  split at h <;> first | (rw [h]; rfl) | cases h
theorem ob_one (h : Sim P E st a w Z pv bl) {o : Nat} (ho : o < st.nx) : (∀ e u l k, st.hp o = .arr e u l k → (pv o).oneCell' = true) ∧ (∀ m k x l r, st.hp o = .map m k x l r → (pv o).oneCell' = true) := by
  refine ⟨fun e u l k hh => ?_, fun m k x l r hh => ?_⟩
  · have hob : RepOb (cx P E st w Z pv bl) o (.arr e u l k) := hh ▸ h.obs o ho
    rcases hob.2 with ⟨_, ⟨xs, _, q⟩, _⟩ | ⟨_, _, q⟩
    · rcases (show (pv o = _ ∧ _) ∨ _ from q) with ⟨q, _⟩ | ⟨g, cap, _, _, q, _⟩
      · rw [q]; rfl
      · rw [show pv o = _ from q]; rfl
    · obtain ⟨a0, c0, e0, _⟩ := q
      rw [show pv o = _ from (List.cons.inj e0).1]; rfl
  · have hob : RepOb (cx P E st w Z pv bl) o (.map m k x l r) := hh ▸ h.obs o ho
    rcases hob.2 with ⟨_, b, es, clk, q, _⟩ | ⟨_, _, q⟩
    · rw [show pv o = _ from q]; rfl
    · obtain ⟨a0, e0, _⟩ := q
      rw [show pv o = _ from (List.cons.inj e0).1]; rfl
theorem conf_one (h : Sim P E st a w Z pv bl) : ∀ (n : Nat) (t t' : T) (av : AV) (cs : List Value), conf E st n t av = true → t.plain = true → RA (cx P E st w Z pv bl) t' av cs → ∀ v ∈ cs, v.oneCell' = true := by
  intro n
  induction n with
  | zero => intro t t' av cs hc; simp [conf] at hc
  | succ n ih =>
    intro t t' av cs hc hp r
    cases r with
    | val q =>
      simp only [conf] at hc
      obtain rfl := of_decide_eq_true hc
      exact plain_one _ hp q
    | @ref _ _ v' h1 h2 h3 h4 =>
      intro v hv
      obtain rfl : v = v' := by simpa using hv
      cases av with
      | nil k => exact nilV_one h2
      | sl o =>
        simp only [conf] at hc
        split at hc
        · rename_i u e u' l k hh
          rw [show v = pv o from h2.2 _ _ _ _ hh]
          exact (ob_one h h2.1).1 _ _ _ _ hh
        · cases hc
      | mp o =>
        simp only [conf] at hc
        split at hc
        · rename_i k x m k' x' l r hh
          rw [show v = pv o from h2.2 _ _ _ _ _ hh]
          exact (ob_one h h2.1).2 _ _ _ _ _ hh
        · cases hc
      | ptr o p =>
        cases p with
        | cons _ _ => simp [conf] at hc
        | nil =>
          simp only [conf] at hc
          split at hc
          · rename_i u e x hh
            obtain ⟨b, t0, off, _, _, _, hv⟩ := h2.2 e x hh
            rw [hv]; rfl
          · cases hc
      | _ => first | (simp [AV.one] at h1; done) | (simp only [conf] at hc; cases hc)
    | un => intro v hv; cases hv
    | @pr x y v r c1 c2 q1 q2 =>
      simp only [conf] at hc
      split at hc
      · rename_i x' y'
        simp only [Bool.and_eq_true] at hc
        have hp' := (Bool.and_eq_true _ _ ▸ hp : _ ∧ _)
        intro u hu
        rcases List.mem_append.1 hu with hu | hu
        · exact ih x' x v c1 hc.1 hp'.1 q1 u hu
        · exact ih y' y (.agg r) c2 hc.2 hp'.2 q2 u hu
      · cases hc
theorem stored_one (hO : ∀ g o, E.orc g = some o → Contract P g o) (h : Sim P E st a w Z pv bl) {t u : T} {p : List Stp} {av av' wv : AV} {v : Value} (hs : setA E st t av p wv = some av') (h1 : tyAt t p = some u) (hp : t.plain = true) (hv : RAV (cx P E st w Z pv bl) wv v) : ∀ x ∈ v.cells.toList, x.oneCell' = true := by
  rcases setA_val p t u av av' hs h1 with hc | ⟨q, hq⟩
  · obtain ⟨h2, _⟩ := conf_sound h hc hv
    exact conf_one h 24 u u wv _ hc (tyAt_plain p t u h1 hp) h2
  · exact plain_one u (tyAt_plain p t u h1 hp) (sn_sound hO h hv hq).2

/-! ### Writing a block -/
def putBlk (w : World) (b : Nat) (X : Obj) : World := { w with heap := w.heap.setIfInBounds b X }
theorem putBlk_same {w : World} {b : Nat} {X : Obj} (h : b < w.heap.size) : (putBlk w b X).heap[b]? = some X := by
  show (w.heap.setIfInBounds b X)[b]? = some X
  rw [Array.getElem?_setIfInBounds_self, if_pos h]
theorem putBlk_ne {w : World} {b b' : Nat} {X : Obj} (h : b' ≠ b) : (putBlk w b X).heap[b']? = w.heap[b']? := by
  show (w.heap.setIfInBounds b X)[b']? = _
  rw [Array.getElem?_setIfInBounds_ne (fun q => h q.symm)]
theorem putBlk_size (w : World) (b : Nat) (X : Obj) : (putBlk w b X).heap.size = w.heap.size := by
  show (w.heap.setIfInBounds b X).size = _
  rw [Array.size_setIfInBounds]
theorem setCell_put {w : World} {b off : Nat} {row : Array Value} {e : TypeId} {fr : Nat × Nat} (h : w.heap[b]? = some (.cells row e fr)) (v : Value) : w.setCell ⟨b, off, none⟩ v = putBlk w b (.cells (row.setIfInBounds off v) e fr) := by
  unfold World.setCell putBlk
  obtain ⟨hlt, hv⟩ := Array.getElem?_eq_some_iff.1 h
  congr 1
  apply Array.ext_getElem?
  intro i
  rw [Array.getElem?_modify, Array.getElem?_setIfInBounds]
  by_cases hi : b = i
  · subst hi
    rw [if_pos rfl, if_pos rfl, if_pos hlt, h]; rfl
  · rw [if_neg hi, if_neg hi]
theorem putBlk_put (w : World) (b : Nat) (X Y : Obj) : putBlk (putBlk w b X) b Y = putBlk w b Y := by
  unfold putBlk
  congr 1
  apply Array.ext_getElem?
  intro i
  simp only [Array.getElem?_setIfInBounds, Array.size_setIfInBounds]
  split <;> rfl
theorem putBlk_self {w : World} {b : Nat} {X : Obj} (h : w.heap[b]? = some X) : putBlk w b X = w := by
  unfold putBlk
  have : w.heap.setIfInBounds b X = w.heap := by
    apply Array.ext_getElem?
    intro i
    rw [Array.getElem?_setIfInBounds]
    split
    · rename_i hi
      subst hi
      rw [if_pos (Array.getElem?_eq_some_iff.1 h).1, h]
    · rfl
  rw [this]
theorem setCells_put {b : Nat} {e : TypeId} {fr : Nat × Nat} : ∀ (vs : List Value) (off : Nat) (w : World) (row : Array Value), w.heap[b]? = some (.cells row e fr) → off + vs.length ≤ row.size →
    ∃ row', w.setCells b off vs = putBlk w b (.cells row' e fr) ∧ row'.toList = splice row.toList off vs ∧ row'.size = row.size
  | [], off, w, row, h, _ => ⟨row, by rw [putBlk_self h]; rfl, by simp [splice], rfl⟩
  | v :: vs, off, w, row, h, hl => by
    simp only [List.length_cons] at hl
    have h1 := setCell_put h (off := off) v
    have hb := (Array.getElem?_eq_some_iff.1 h).1
    obtain ⟨row', g1, g2, g3⟩ := setCells_put vs (off + 1) (putBlk w b (.cells (row.setIfInBounds off v) e fr)) (row.setIfInBounds off v) (putBlk_same hb) (by simp; omega)
    refine ⟨row', ?_, ?_, by simpa using g3⟩
    · rw [World.setCells, h1, g1, putBlk_put]
    · rw [g2]
      apply List.ext_getElem?
      intro i
      rw [splice_get (by simp; omega), splice_get (by simp; omega)]
      simp only [Array.toList_setIfInBounds, List.length_cons, List.getElem?_set]
      have hk : off < row.toList.length := by simp; omega
      by_cases a1 : i < off
      · rw [if_pos (show i < off + 1 by omega), if_pos a1, if_neg (by omega)]
      · rw [if_neg a1]
        by_cases a2 : i = off
        · subst a2
          rw [if_pos (show i < i + 1 by omega), if_pos rfl, if_pos hk, if_pos (by omega), Nat.sub_self]; rfl
        · rw [if_neg (show ¬ i < off + 1 by omega), if_neg (show ¬ off = i by omega)]
          by_cases a3 : i < off + (vs.length + 1)
          · rw [if_pos a3, if_pos (by omega), show i - off = (i - (off + 1)) + 1 by omega, List.getElem?_cons_succ]
          · rw [if_neg a3, if_neg (by omega)]
theorem cell_at {w : World} {b i : Nat} {row : Array Value} {e : TypeId} {fr : Nat × Nat} (h : w.heap[b]? = some (.cells row e fr)) : w.cell? ⟨b, i, none⟩ = row[i]? := by simp [World.cell?, h]
theorem frozen_at {w : World} {b i : Nat} {row : Array Value} {e : TypeId} {fr : Nat × Nat} (h : w.heap[b]? = some (.cells row e fr)) (hf : fr = (0, 0) ∨ row.size ≤ fr.1) (hi : i < row.size) : w.frozen? ⟨b, i, none⟩ = false := by
  simp only [World.frozen?, h]
  rcases hf with rfl | hf
  · simp
  · have : decide (fr.1 ≤ i) = false := decide_eq_false (by omega)
    rw [this]; rfl
theorem run_storeAt_row (ty : TyOK P E) {id : TypeId} {u : T} (hu : E.ty id = some u) {w : World} {b off : Nat} {row : Array Value} {e : TypeId} {fr : Nat × Nat} (h : w.heap[b]? = some (.cells row e fr)) (hf : fr = (0, 0) ∨ row.size ≤ fr.1)
    {v : Value} (hl : v.cells.toList.length = u.sz) (hfit : off + u.sz ≤ row.size) (h1 : ∀ x ∈ v.cells.toList, x.oneCell' = true) :
    ∃ row', (Instr.storeAt id (.pointer (some ⟨b, off, none⟩)) v).run P w = .ok () (putBlk w b (.cells row' e fr)) ∧ row'.toList = splice row.toList off v.cells.toList ∧ row'.size = row.size := by
  obtain ⟨i, z, hi, hsz, _⟩ := ty.info id u hu
  obtain ⟨row', g1, g2, g3⟩ := setCells_put v.cells.toList off w row h (by omega)
  refine ⟨row', ?_, g2, g3⟩
  have := run_storeCells_cells (P := P) b off v.cells.toList 0 w (fun j hj => by rw [cell_at h]; simp; omega) (fun j hj => frozen_at h hf (by omega)) h1
  simp only [Nat.add_zero] at this
  have hl' : v.cells.size = i.size := by rw [hsz, ← hl]; simp
  simp [Instr.storeAt, Instr.sureAddr, storeVar, Go.sizeOf, typeInfo, hi, hl', this, g1]
end
end Ev
/- Operations that act (3): stores. -/
namespace Ev
open Go
section
variable {P : Program} {E : Env} {st : St} {a : Act} {w : World} {Z : Zn} {pv : Nat → Value} {bl : Nat → Option Nat} {R : Type} {K : AV → St → Option R} {r : R} {o : Oper}

def sameK : Ob → Ob → Prop
  | .arr e u _ _, .arr e' u' _ _ => e = e' ∧ u = u'
  | .box e _, .box e' _ => e = e'
  | .map m k v _ _, .map m' k' v' _ _ => m = m' ∧ k = k' ∧ v = v'
  | _, _ => False
theorem Sim.lt (h : Sim P E st a w Z pv bl) {o b : Nat} (hb : bl o = some b) : o < st.nx := by
  rcases Nat.lt_or_ge o st.nx with q | q
  · exact q
  · rw [(h.fresh o q).2] at hb; cases hb
theorem Sim.extWrite (h : Sim P E st a w Z pv bl) {o b : Nat} {ob : Ob} {X : Obj} (hb : bl o = some b) (hk : sameK (st.hp o) ob) : Ext (cx P E st w Z pv bl) (cx P E (st.set o ob) (putBlk w b X) Z pv bl) := by
  refine ⟨rfl, rfl, fun _ h => h, fun c hc => putBlk_ne (fun e => (h.own o b hb).1 (e ▸ hc)), Nat.le_refl _, fun o' e u l k ho hx => ⟨rfl, ?_⟩, fun o' e x ho hx => ⟨rfl, ?_⟩, fun o' m k v l q ho hx => ⟨rfl, ?_⟩⟩
  · have hx' : upd st.hp o ob o' = .arr e u l k := hx
    by_cases he : o' = o
    · subst he
      rw [upd_same] at hx'
      rw [hx'] at hk
      cases hh : st.hp o' <;> rw [hh] at hk <;> simp only [sameK] at hk <;> first | exact False.elim hk | skip
      obtain ⟨rfl, rfl⟩ := hk
      exact ⟨_, _, hh⟩
    · rw [upd_ne _ _ he] at hx'; exact ⟨l, k, hx'⟩
  · have hx' : upd st.hp o ob o' = .box e x := hx
    by_cases he : o' = o
    · subst he
      rw [upd_same] at hx'
      rw [hx'] at hk
      cases hh : st.hp o' <;> rw [hh] at hk <;> simp only [sameK] at hk
      subst hk
      exact ⟨_, hh⟩
    · rw [upd_ne _ _ he] at hx'; exact ⟨x, hx'⟩
  · have hx' : upd st.hp o ob o' = .map m k v l q := hx
    by_cases he : o' = o
    · subst he
      rw [upd_same] at hx'
      rw [hx'] at hk
      cases hh : st.hp o' <;> rw [hh] at hk <;> simp only [sameK] at hk <;> first | exact False.elim hk | skip
      obtain ⟨rfl, rfl, rfl⟩ := hk
      exact ⟨_, _, hh⟩
    · rw [upd_ne _ _ he] at hx'; exact ⟨l, q, hx'⟩
theorem Sim.write (h : Sim P E st a w Z pv bl) {o b : Nat} {ob : Ob} {X : Obj} (hb : bl o = some b) (hk : sameK (st.hp o) ob) (hX : RepOb (cx P E (st.set o ob) (putBlk w b X) Z pv bl) o ob) :
    Sim P E (st.set o ob) a (putBlk w b X) Z pv bl ∧ Tr w Z bl (putBlk w b X) Z bl := by
  have hx := h.extWrite (X := X) hb hk
  refine ⟨⟨h.n, h.defers, h.out, fun i hi => (h.slots i hi).ext hx, fun o' ho => ?_, fun o' ho => ?_, h.inj, fun o' b' hb' => ?_, fun c hc => ?_⟩, ⟨rfl, rfl, rfl, Nat.le_of_eq (putBlk_size _ _ _).symm, fun c _ hn => putBlk_ne (fun e => hn o (e ▸ hb)), fun _ h => h, fun _ h => .inl h, fun o _ h => .inl ⟨o, h⟩⟩⟩
  · show RepOb _ o' (upd st.hp o ob o')
    by_cases he : o' = o
    · subst he; rw [upd_same]; exact hX
    · rw [upd_ne _ _ he]
      exact (h.obs o' ho).ext hx rfl rfl (fun c hc => putBlk_ne (fun e => he (h.inj o' o b (by subst e; exact hc) hb)))
  · have he : o' ≠ o := by
      have := h.lt hb
      have : st.nx ≤ o' := ho
      omega
    exact ⟨(upd_ne _ _ he).trans (h.fresh o' ho).1, (h.fresh o' ho).2⟩
  · rw [putBlk_size]; exact h.own o' b' hb'
  · rw [putBlk_size]; exact h.zok c hc
theorem memB_false {o : Nat} : ∀ {l : List Nat}, memB o l = false → o ∉ l
  | [], _, h => by cases h
  | x :: l, h, hm => by
    simp only [memB, Bool.or_eq_false_iff] at h
    rcases List.mem_cons.1 hm with rfl | hm
    · rw [Nat.beq_refl] at h; cases h.1
    · exact memB_false h.2 hm
theorem splice_take {α : Type} {cs vs : List α} {o n : Nat} (h1 : o + vs.length ≤ n) (h2 : n ≤ cs.length) : (splice cs o vs).take n = splice (cs.take n) o vs := by
  have hl : (cs.take n).length = n := by rw [List.length_take]; omega
  have e : cs = cs.take n ++ cs.drop n := (List.take_append_drop n cs).symm
  have e2 : splice cs o vs = splice (cs.take n) o vs ++ cs.drop n := by
    calc splice cs o vs = splice (cs.take n ++ cs.drop n) o vs := by rw [← e]
      _ = _ := splice_left (by omega)
  rw [e2, List.take_append_of_le_length (by rw [splice_len (by omega), hl]; exact Nat.le_refl _), List.take_of_length_le (by rw [splice_len (by omega), hl]; exact Nat.le_refl _)]

theorem store_loud (ty : TyOK P E) (hO : ∀ g o, E.orc g = some o → Contract P g o) (h : Sim P E st a w Z pv bl) {t : TypeId} {x y : Operand} (hop : o.op = .store t x y) (he : evOp E o st K = some r) : Loud P E st a w Z bl o K r := by
  simp only [evOp, hop] at he
  have hx := h.op x
  have hy := h.op y
  split at he
  · rename_i hp
    obtain ⟨u, hu, hpt⟩ := ptIs_some hp
    have hexec : ∀ {w' : World}, (Instr.storeAt t (a.eval x) (a.eval y)).run P w = .ok () w' → (execOp a.eval o).run P w = .ok .skip w' := by
      intro w' hr
      simp only [execOp, hop]
      rw [Sem.run_bind, hr]; rfl
    unfold evStore at he
    split at he
    · -- into a variable
      rename_i o' p hxe
      rw [hxe] at hx hpt
      split at he
      · rename_i e wv hh
        split at he
        · rename_i t0 ht0
          split at he
          · rename_i wv' hset
            have hr := hx.ref_inv rfl
            obtain ⟨b, t1, off, g1, g2, g3, g4⟩ := hr.2 e wv hh
            obtain rfl : t1 = t0 := Option.some.inj ((show E.ty e = some t1 from g2).symm.trans ht0)
            have htp : tyAt t1 p = some u := by simp only [ptTy, hh, ht0] at hpt; exact hpt
            have hob : RepOb (cx P E st w Z pv bl) o' (.box e wv) := hh ▸ h.obs o' hr.1
            obtain ⟨t2, b2, cs, r1, r2, r3, r4⟩ := hob
            obtain rfl : b = b2 := Option.some.inj (g1.symm.trans r2)
            obtain rfl : t1 = t2 := Option.some.inj (ht0.symm.trans r1)
            have hone := stored_one hO h hset htp (ty.plain e t1 ht0) hy
            -- in whatever context the parts are put together
            have fin : ∀ {st1 : St} {Z1 : Zn} {bl1 : Nat → Option Nat}, Sim P E st1 a w Z1 pv bl1 → Tr w Z bl w Z1 bl1 → Ext (cx P E st w Z pv bl) (cx P E st1 w Z1 pv bl1) → bl1 o' = some b → st1.hp o' = .box e wv → Keep bl Z1 bl1 (wrIds E st o.op) →
                (keeps wv p = false → ∀ u q, sn E st u (st.op y) = some q → RepC P u Z1 w q (a.eval y).cells.toList) → K .dead (st1.set o' (.box e wv')) = some r → Loud P E st a w Z bl o K r := by
              intro st1 Z1 bl1 hs1 htr hext hb1 hh1 hkp hsn hk
              have hra : RA (cx P E st1 w Z1 pv bl1) t1 wv cs.toList := r4.ext hext
              obtain ⟨k1, k2, k3⟩ := setA_sound (E := E) (st := st) (c := cx P E st1 w Z1 pv bl1) rfl (fun t hc => (conf_sound h hc hy).1.ext hext) p t1 wv wv' cs.toList u off hsn hset htp g3 hra
              obtain ⟨row', m1, m2, m3⟩ := run_storeAt_row (P := P) ty hu r3 (.inl rfl) k3 (by simpa using k2) hone
              have hkind : sameK (st1.hp o') (.box e wv') := by rw [hh1]; rfl
              have hxw := hs1.extWrite (X := .cells row' e (0, 0)) hb1 hkind
              obtain ⟨n1, n2⟩ := hs1.write (X := .cells row' e (0, 0)) hb1 hkind ⟨t1, b, row', ht0, hb1, putBlk_same ((h.own o' b g1).2), by rw [m2]; exact k1.ext hxw⟩
              exact Loud.skip (hexec (by rw [g4]; exact m1)) n1 (htr.trans n2) hk ⟨fun b' hb' hne => putBlk_ne (fun q => hne o' (by rw [hop]; simp only [wrIds, hxe]; exact List.mem_singleton.2 rfl) (q ▸ g1)), hkp⟩
            split at he
            · rename_i hkp
              exact fin h (Tr.refl _ _ _) (Ext.refl _) g1 hh (Keep.refl _ _ _) (fun q => absurd hkp (by rw [q]; simp)) he
            · split at he
              · cases he
              · rename_i hm
                have hm' : o' ∉ tch st (st.op y) := memB_false (by simpa using hm)
                exact fin (h.ro _) (Tr.ro _ _ _ _) (h.extRo _) ((if_neg hm').trans g1) (by rw [ro_hp, if_neg hm']; exact hh) (Keep.ro _ _ _ _) (fun _ u q hq => (sn_sound hO h hy hq).2) he
          · cases he
        · cases he
      · cases he
    · -- into an element
      rename_i o' i p hxe
      rw [hxe] at hx hpt
      split at he
      · rename_i e u0 l k hh
        split at he
        · rename_i hk1
          split at he
          · rename_i yv hset
            split at he
            · cases he
            · rename_i hm
              have hm' : o' ∉ tch st (st.op y) := memB_false (by simpa using hm)
              have hk1' : k ≤ 1 := by simpa using hk1
              have hr := hx.ref_inv rfl
              obtain ⟨b, s, N, c, off, p1, p2, p3, p4⟩ := hr.2 e u0 l k hh
              have htp : tyAt u0 p = some u := by simp only [ptTy, hh] at hpt; exact hpt
              have hob : RepOb (cx P E st w Z pv bl) o' (.arr e u0 l k) := hh ▸ h.obs o' hr.1
              obtain ⟨hu0, hown⟩ := hob
              rcases hown with ⟨_, ⟨xs, hrows, hO2⟩, hbl⟩ | ⟨hk2, _⟩
              · rcases hO2 with ⟨hO2, _⟩ | ⟨g, cap, cur, fr, hO2, hg, hcap, hcm, hcs, htake, hfr⟩
                · have q := p1.symm.trans hO2; cases q
                · have hpv := (show pv o' = _ from p1).symm.trans hO2
                  injection hpv with e1 e2 e3
                  injection e1 with e1
                  injection e1 with e1 e4
                  subst e1; subst e4; subst e2; subst e3
                  have hb1 : bl o' = some b := by
                    have : bl o' = (pv o').ownBlock := hbl
                    rw [this, show pv o' = _ from p1]; rfl
                  have hs1 := h.ro (tch st (st.op y))
                  have hext := h.extRo (tch st (st.op y))
                  have hb2 : blr bl (tch st (st.op y)) o' = some b := (if_neg hm').trans hb1
                  have hh2 : (st.ro (tch st (st.op y))).hp o' = .arr e u0 l k := by rw [ro_hp, if_neg hm']; exact hh
                  have hrows1 : Rows (RepC P u0 (Zt Z bl (tch st (st.op y))) w) l xs := hrows.imp fun _ _ q => q.mono (Zt.le _ _ _) (Agree.refl _ _)
                  have hget := Rows.get RepC.len i u0.zero hrows1 p2
                  have hl := Rows.len_eq RepC.len hrows1
                  have hle : i * u0.sz + u0.sz ≤ xs.length := by rw [hl, ← Nat.succ_mul]; exact Nat.mul_le_mul_right _ (by omega)
                  obtain ⟨k1, k2, k3⟩ := setT_sound (P := P) (Z := Zt Z bl (tch st (st.op y))) (w := w) (vs := (a.eval y).cells.toList) p u0 (l.getD i u0.zero) yv _ u off hset htp p3 hget (fun q hq => (sn_sound hO h hy hq).2)
                  have hone : ∀ x ∈ (a.eval y).cells.toList, x.oneCell' = true := by
                    obtain ⟨q, hq⟩ := setT_val p u0 u _ yv hset htp
                    exact plain_one u (tyAt_plain p u0 u htp (ty.plain e u0 hu0)) (sn_sound hO h hy hq).2
                  rw [List.length_take, List.length_drop] at k2
                  have hxl : xs.length ≤ cur.toList.length := by rw [← htake, List.length_take]; omega
                  have hxc : xs.length ≤ cur.size := by simpa using hxl
                  have hfr' : fr = (0, 0) ∨ cur.size ≤ fr.1 := hfr.imp id And.right
                  obtain ⟨row', m1, m2, m3⟩ := run_storeAt_row (P := P) (v := a.eval y) (off := 0 + (i * u0.sz + off)) ty hu hg hfr' k3 (by omega) hone
                  have hset2 := Rows.set RepC.len k1 i hrows1 p2
                  rw [splice_in hle (by omega)] at hset2
                  have hkind : sameK ((st.ro (tch st (st.op y))).hp o') (.arr e u0 (l.set i yv) k) := by rw [hh2]; exact ⟨rfl, rfl⟩
                  have hX : RepOb (cx P E ((st.ro (tch st (st.op y))).set o' (.arr e u0 (l.set i yv) k)) (putBlk w b (.cells row' e fr)) (Zt Z bl (tch st (st.op y))) pv (blr bl (tch st (st.op y)))) o' (.arr e u0 (l.set i yv) k) := by
                    refine ⟨hu0, .inl ⟨hk1', ⟨splice xs (i * u0.sz + off) (a.eval y).cells.toList, ?_, .inr ⟨b, c, row', fr, ?_, putBlk_same ((h.own o' b hb1).2), by rw [List.length_set]; exact hcap, hcm, by rw [m3]; exact hcs, ?_, by rw [m3]; exact hfr⟩⟩, hb2.trans (hb1.symm.trans hbl)⟩⟩
                    · have hxw := hs1.extWrite (X := .cells row' e fr) hb2 hkind
                      exact hset2.imp fun _ _ q => q.mono hxw.zle hxw.agree
                    · rw [List.length_set]; exact p1
                    · rw [m2, splice_len (by omega), Nat.zero_add, splice_take (by omega) hxl, htake]
                  obtain ⟨n1, n2⟩ := hs1.write (X := .cells row' e fr) hb2 hkind hX
                  exact Loud.skip (hexec (by rw [p4]; exact m1)) n1 ((Tr.ro _ _ _ _).trans n2) he ⟨fun b' hb' hne => putBlk_ne (fun q => hne o' (by rw [hop]; simp only [wrIds, hxe]; exact List.mem_singleton.2 rfl) (q ▸ hb1)), Keep.ro _ _ _ _⟩
              · omega
          · cases he
        · cases he
      · cases he
    · cases he
  · cases he
end
end Ev
/- Operations that act (4): maps, rows. -/
namespace Ev
open Go
section
variable {P : Program} {E : Env} {st : St} {a : Act} {w : World} {Z : Zn} {pv : Nat → Value} {bl : Nat → Option Nat} {R : Type} {K : AV → St → Option R} {r : R} {o : Oper}

theorem sameBits_cells : ∀ (t : T), t.cmp = true → ∀ {Z : Zn} {w : World} {x : t.in} {cs : List Value}, RepC P t Z w x cs → ∀ v ∈ cs, ∀ n, Instr.sameBits n v v = true := by
  intro t
  induction t with
  | i k => intro _ Z w x cs h v hv n; rw [h.1] at hv; simp at hv; subst hv; cases n <;> simp [Instr.sameBits]
  | b => intro _ Z w x cs h v hv n; rw [show cs = [.bool x] from h] at hv; simp at hv; subst hv; cases n <;> simp [Instr.sameBits]
  | s => intro _ Z w x cs h v hv n; obtain ⟨s, rfl, _⟩ := h; simp at hv; subst hv; cases n <;> simp [Instr.sameBits, ba_beq]
  | un => intro _ Z w x cs h v hv; rw [show cs = [] from h] at hv; cases hv
  | pr a bb iha ihb =>
    intro hp Z w x cs h v hv n
    have hp' := (Bool.and_eq_true _ _ ▸ hp : _ ∧ _)
    obtain ⟨c1, c2, rfl, h1, h2⟩ := h
    rcases List.mem_append.1 hv with hv | hv
    · exact iha hp'.1 h1 v hv n
    · exact ihb hp'.2 h2 v hv n
  | ar n t ih =>
    intro hp Z w x cs h v hv n
    have hp' : t.cmp = true := hp
    have rows : ∀ {l : List t.in} {cs : List Value}, Rows (RepC P t Z w) l cs → v ∈ cs → Instr.sameBits n v v = true := by
      intro l cs r
      induction r with
      | nil => intro q; cases q
      | cons q _ ihr =>
        intro hm
        rcases List.mem_append.1 hm with hm | hm
        · exact ih hp' q v hm n
        · exact ihr hm
    exact rows h.2 hv
  | _ => intro hc; simp [T.cmp] at hc
theorem sameBits_rep {t : T} (hc : t.cmp = true) {x : t.in} {v : Value} (h : RepV P t Z w x v) : Instr.sameBits 10000 v v = true := by
  have hh := sameBits_cells t hc h.2
  cases hv : v with
  | agg cs =>
    subst hv
    show (cs.size == cs.size && (cs.toList.zip cs.toList).all fun (x, y) => Instr.sameBits 9999 x y) = true
    rw [beq_self_eq_true, Bool.true_and, List.all_eq_true]
    rintro ⟨x, y⟩ hxy
    have : x = y := by
      obtain ⟨i, hi⟩ := List.mem_iff_getElem?.1 hxy
      rw [List.getElem?_zip_eq_some] at hi
      exact Option.some.inj (hi.1.symm.trans hi.2)
    subst this
    exact hh x (List.of_mem_zip hxy).1 9999
  | _ => subst hv; exact hh _ (by simp [Value.cells]) 10000
theorem entriesR_push {κ ν : Type} {K : κ → Value → Prop} {V : ν → Value → Prop} {x : κ} {y : ν} {e : MapEntry} : ∀ {l : List (κ × ν)} {es : List MapEntry}, entriesR K V l es → K x e.key → V y e.val → entriesR K V (l ++ [(x, y)]) (es ++ [e])
  | [], [], _, h1, h2 => ⟨h1, h2, trivial⟩
  | _ :: _, _ :: _, ⟨a, b, c⟩, h1, h2 => ⟨a, b, entriesR_push c h1 h2⟩
theorem mapUpdate_loud (ty : TyOK P E) (hO : ∀ g o, E.orc g = some o → Contract P g o) (h : Sim P E st a w Z pv bl) {t : TypeId} {x i y : Operand} (hwr : wrIds E st o.op = mpIds (st.op x)) (hex : execOp a.eval o = (do Instr.mapUpdate t (a.eval x) (a.eval i) (a.eval y); pure .skip)) (he : evMapUpdate E t (st.op x) (st.op i) (st.op y) st (K .dead) = some r) : Loud P E st a w Z bl o K r := by
  have hx := h.op x
  have hi := h.op i
  have hy := h.op y
  unfold evMapUpdate at he
  split at he
  · rename_i o' hxe
    rw [hxe] at hx
    split at he
    · rename_i m kt vt l hh
      split at he
      · rename_i hty
        split at he
        · rename_i hc
          split at he
          · rename_i b d hb hd
            split at he
            · cases he
            · rename_i hm
              have hm' : o' ∉ tch st (st.op i) ++ tch st (st.op y) := memB_false (by simpa using hm)
              have hr := hx.ref_inv rfl
              have hv : a.eval x = pv o' := hr.2 _ _ _ _ _ hh
              have hob : RepOb (cx P E st w Z pv bl) o' (.map m kt vt l false) := hh ▸ h.obs o' hr.1
              rcases hob.2 with ⟨_, mb, es, clk, d1, d2, d3, d4⟩ | ⟨hf, _⟩
              · obtain ⟨ki, vi, hu, hki, hvi⟩ := ty.mp t kt vt (eTy_some hty)
                have hs1 := h.ro (tch st (st.op i) ++ tch st (st.op y))
                have hext := h.extRo (tch st (st.op i) ++ tch st (st.op y))
                have hb2 : blr bl (tch st (st.op i) ++ tch st (st.op y)) o' = some mb := (if_neg hm').trans d2
                have hh2 : (st.ro (tch st (st.op i) ++ tch st (st.op y))).hp o' = .map m kt vt l false := by rw [ro_hp, if_neg hm']; exact hh
                have rk := (sn_sound hO h hi hb).mono (Zt.app1 Z bl (tch st (st.op i)) (tch st (st.op y))) (Agree.refl _ w)
                have rv := (sn_sound hO h hy hd).mono (Zt.app2 Z bl (tch st (st.op i)) (tch st (st.op y))) (Agree.refl _ w)
                revert rk rv hs1 hext hb2 hh2 he
                generalize hids : tch st (st.op i) ++ tch st (st.op y) = ids
                intro he hs1 hext hb2 hh2 rk rv
                have hent : entR P (Zt Z bl ids) w kt vt l es.toList := entriesR.imp (RepV.monoF (Zt.le _ _ _) (Agree.refl _ _)) (RepV.monoF (Zt.le _ _ _) (Agree.refl _ _)) d4
                have hfk := findKey_run ty hki hc rk hent w
                have hck := ty.ck ki kt hki hc _ w w false b (a.eval i) rk
                have hmb : mb < w.heap.size := (h.own o' mb d2).2
                have hg : (getObj mb).run P w = .ok (.map es clk) w := by simp [getObj, Sem.run, show w.heap[mb]? = some (.map es clk) from d3]
                have hst : ∀ X, (setObj mb X).run P w = .ok () (putBlk w mb X) := fun X => by simp [setObj, Sem.run, show w.heap[mb]? = some (.map es clk) from d3, putBlk]
                have hkind : ∀ l', sameK ((st.ro ids).hp o') (.map m kt vt l' false) := fun l' => by rw [hh2]; exact ⟨rfl, rfl, rfl⟩
                have fin : ∀ (es' : Array MapEntry) (clk' : Nat), (Instr.mapUpdate t (a.eval x) (a.eval i) (a.eval y)).run P w = .ok () (putBlk w mb (.map es' clk')) → entR P (Zt Z bl ids) w kt vt (up kt vt l b d) es'.toList → Loud P E st a w Z bl o K r := by
                  intro es' clk' hrun hent'
                  have hxw := hs1.extWrite (X := .map es' clk') hb2 (hkind (up kt vt l b d))
                  have hX : RepOb (cx P E ((st.ro ids).set o' (.map m kt vt (up kt vt l b d) false)) (putBlk w mb (.map es' clk')) (Zt Z bl ids) pv (blr bl ids)) o' (.map m kt vt (up kt vt l b d) false) :=
                    ⟨hob.1, .inl ⟨rfl, mb, es', clk', d1, hb2, putBlk_same hmb, entriesR.imp (RepV.monoF hxw.zle hxw.agree) (RepV.monoF hxw.zle hxw.agree) hent'⟩⟩
                  obtain ⟨n1, n2⟩ := hs1.write (X := .map es' clk') hb2 (hkind _) hX
                  exact Loud.skip (by rw [hex, Sem.run_bind, hrun]; rfl) n1 ((Tr.ro _ _ _ _).trans n2) he ⟨fun b' hb' hne => putBlk_ne (fun q => hne o' (by rw [hwr, hxe]; exact List.mem_singleton.2 rfl) (q ▸ d2)), Keep.ro _ _ _ _⟩
                cases hf : fk kt l es.toList b 0 with
                | none =>
                  obtain ⟨_, g2⟩ := fk_none hent hf
                  refine fin (es.push { key := a.eval i, val := a.eval y, born := clk }) (clk + 1) ?_ ?_
                  · simp only [Instr.mapUpdate, Sem.run_bind, run_underlying hu, Result.andThen_ok, hv, show pv o' = .map (some mb) from d1]
                    simp [hg, hck, hfk, hf, hst]
                  · rw [g2 d, Array.toList_push]
                    exact entriesR_push hent rk rv
                | some ju =>
                  obtain ⟨j, u⟩ := ju
                  obtain ⟨_, ⟨e0, q1, _, p0, q2, q3⟩, _, g5⟩ := fk_some hent hf
                  have hkeq : a.eval i = e0.key := rk.eq_of hc q2 q3
                  have hkey : (Instr.keyThatStays (((es[j]?).map (·.key)).getD (a.eval i)) (a.eval i)).run P w = .ok (a.eval i) w := by
                    have : es[j]? = some e0 := by simpa using q1
                    rw [this]
                    simp only [Option.map_some, Option.getD_some, ← hkeq, Instr.keyThatStays, sameBits_rep hc rk]
                    simp
                  refine fin (es.modify j fun e => { e with key := a.eval i, val := a.eval y }) clk ?_ ?_
                  · simp only [Instr.mapUpdate, Sem.run_bind, run_underlying hu, Result.andThen_ok, hv, show pv o' = .map (some mb) from d1]
                    simp [hg, hck, hfk, hf, hst, hkey]
                  · rw [Array.toList_modify]
                    have := g5 d (a.eval y) (a.eval i) rv (fun p e hK hq => by rw [rk.eq_of hc hK hq]; exact hK)
                    simpa [entR] using this
              · cases hf
          · cases he
        · cases he
      · cases he
    · cases he
  · cases he

/-! ### New rows -/
theorem getBang {zs : List Value} (cs : Array Value) (h : cs.toList = zs) (i : Nat) : cs[i]! = zs.getD i default := by
  subst h
  simp [Array.getElem!_eq_getD, List.getD_eq_getElem?_getD, Array.getD_eq_getD_getElem?]
theorem flat_get (zs : List Value) : ∀ (n i : Nat), (List.replicate n zs).flatten[i]? = if i < n * zs.length then some (zs.getD (i % zs.length) default) else none
  | 0, i => by simp
  | n + 1, i => by
    rw [List.replicate_succ, List.flatten_cons]
    by_cases h : i < zs.length
    · rw [List.getElem?_append_left h, if_pos (by rw [Nat.add_mul]; omega), Nat.mod_eq_of_lt h, List.getD_eq_getElem?_getD, List.getElem?_eq_getElem h]; rfl
    · rw [List.getElem?_append_right (by omega), flat_get zs n (i - zs.length)]
      have e : (i - zs.length) % zs.length = i % zs.length := by
        rcases Nat.eq_zero_or_pos zs.length with h0 | h0
        · rw [h0]; simp
        · rw [← Nat.mod_eq_sub_mod (by omega)]
      rw [e]
      by_cases h2 : i < (n + 1) * zs.length
      · rw [if_pos h2, if_pos (by rw [Nat.add_mul] at h2; omega)]
      · rw [if_neg h2, if_neg (by rw [Nat.add_mul] at h2; omega)]
theorem made_zero {z : Value} {zs : List Value} (hz : z.cells.toList = zs) (n : Nat) : (madeCells z.cells (n * zs.length)).toList = (List.replicate n zs).flatten := by
  have hl : z.cells.size = zs.length := by rw [← hz]; simp
  unfold madeCells
  rw [Array.toList_map, Array.toList_range]
  apply List.ext_getElem?
  intro i
  rw [List.getElem?_map, flat_get, hl]
  by_cases h : i < n * zs.length
  · rw [if_pos h, List.getElem?_range h, Option.map_some, getBang z.cells hz]
  · rw [if_neg h, List.getElem?_eq_none (by simp; omega)]; rfl
theorem maxLen_le {n : Nat} (h : n ≤ 17179869184) : n ≤ maxLen := by simp only [maxLen]; omega
theorem Kept.drew (w : World) (ob : Obj) : Kept w (w.drew.alloc ob) := ⟨rfl, rfl, rfl, by show w.heap.size ≤ (w.heap.push ob).size; simp, fun b hb => heap_alloc_old w.drew ob b hb⟩
theorem bytes_rows (s : ByteArray) : Rows (RepC P (.i .u8) Z w) (strL s) (s.data.toList.map fun b => Value.int .u8 b.toNat) := by
  unfold strL
  generalize s.data.toList = l
  induction l with
  | nil => exact .nil
  | cons b l ih =>
    exact .cons (c := [.int .u8 b.toNat]) ⟨rfl, (show 0 ≤ (b.toNat : Int) ∧ (b.toNat : Int) ≤ 255 from ⟨by omega, by have := b.toNat_lt; omega⟩)⟩ ih
theorem makeSlice_loud (ty : TyOK P E) (h : Sim P E st a w Z pv bl) {t : TypeId} {n m : Operand} (hop : o.op = .makeSlice t n m) (he : evOp E o st K = some r) : Loud P E st a w Z bl o K r := by
  simp only [evOp, hop] at he
  have hn := h.op n
  have hm := h.op m
  unfold evMakeSlice at he
  split at he
  · rename_i e k1 x k2 y hds hne hme
    rw [hne] at hn
    rw [hme] at hm
    split at he
    · rename_i u hu
      split at he
      · rename_i hxy
        split at he
        · rename_i h0
          split at he
          · rename_i h1
            subst hxy
            obtain ⟨hv1, _⟩ := RepV.int_inv hn.val_inv
            obtain ⟨hv2, _⟩ := RepV.int_inv hm.val_inv
            obtain ⟨i, z, i1, i2, i3, i4, i5, i6⟩ := ty.info e u hu
            have h0' : (0 : Int) ≤ (x : Int) := h0
            have h1' : (x : Int) ≤ 17179869184 := h1
            have hb : (i.bytes : Int) * (x : Int) ≤ 281474976710656 := by
              have : (i.bytes : Int) * (x : Int) ≤ 4096 * 17179869184 := Int.mul_le_mul (by omega) h1' h0' (by omega)
              omega
            have h2' : Int.toNat x ≤ 17179869184 := (Int.toNat_le (n := 17179869184)).2 h1'
            have hrun := run_make (P := P) w t e i z (ty.sl t e hds) i1 i4 k1 k2 x x h0 (Int.le_refl _) hb (Int.le_trans h1' (by omega))
            have hz := zero_rep (P := P) u (ty.plain e u hu) Z w
            have hzl := RepC.length _ _ _ hz
            have hmade := made_zero i6 x.toNat
            rw [hzl] at hmade
            rw [i2] at hrun
            have hrows := Rows.rep hz x.toNat
            rw [← hmade] at hrows
            have hll : (List.replicate x.toNat u.zero).length = x.toNat := List.length_replicate
            obtain ⟨pv', bl', q1, q2, q3, q4⟩ := h.newArr (w' := w.alloc (.cells (madeCells z.cells (x.toNat * u.sz)) e)) (kept_alloc w _) (q := 0) (by omega) hu hrows (fr := (0, 0)) (cap := x.toNat) (alloc_new w _) (alloc_size w _) (Nat.le_of_eq hll) (maxLen_le h2') (size_madeCells _ _) (List.take_of_length_le (Nat.le_refl _)) (.inl rfl)
            rw [hll] at q3
            refine Loud.value ?_ q1 q2 q3 he (.kept (kept_alloc w _) (q4 _ _))
            simp only [execOp, hop, hv1, hv2]
            rw [Sem.run_bind, hrun]; rfl
          · cases he
        · cases he
      · cases he
    · cases he
  · cases he
theorem isU8_some {t : Option T} (h : isU8 t = true) : t = some (.i .u8) := by
  unfold isU8 at h
  split at h
  · rfl
  · cases h
theorem cellsBytes {ns : List Int} {w : World} {b off : Nat} {row : List Value} (hr : Rows (RepC P (.i .u8) Z w) ns row) (hm : cellsAt w b off row) : row = ns.map (Value.int .u8) ∧ (∀ n ∈ ns, 0 ≤ n ∧ n ≤ 255) ∧ ∀ j (hj : j < ns.length), w.cell? ⟨b, off + j, none⟩ = some (.int .u8 ns[j]) := by
  have h1 : ∀ {ns : List Int} {row : List Value}, Rows (RepC P (.i .u8) Z w) ns row → row = ns.map (Value.int .u8) ∧ (∀ n ∈ ns, 0 ≤ n ∧ n ≤ 255) := by
    intro ns row hr
    induction hr with
    | nil => exact ⟨rfl, fun _ h => by cases h⟩
    | cons hc _ ih =>
      obtain ⟨rfl, h2⟩ := hc
      refine ⟨by rw [ih.1]; rfl, fun n hn => ?_⟩
      rcases List.mem_cons.1 hn with rfl | hn
      · exact h2
      · exact ih.2 n hn
  obtain ⟨rfl, h2⟩ := h1 hr
  refine ⟨rfl, h2, fun j hj => ?_⟩
  obtain ⟨r, e, fr, g1, g2, g3⟩ := hm
  have : (List.map (Value.int .u8) ns)[j]? = some (.int .u8 ns[j]) := by simp [hj]
  rw [← g3, List.getElem?_take, if_pos (by simpa using hj), List.getElem?_drop] at this
  rw [cell_at g1]
  simpa using this
theorem strL_ofInts {ns : List Int} (h : ∀ n ∈ ns, 0 ≤ n ∧ n ≤ 255) : strL ⟨(ns.map fun n => UInt8.ofNat n.toNat).toArray⟩ = ns ∧ (ns.map fun n => UInt8.ofNat n.toNat).map (fun b => (b.toNat : Int)) = ns := by
  have : (ns.map fun n => UInt8.ofNat n.toNat).map (fun b => (b.toNat : Int)) = ns := by
    rw [List.map_map]
    conv => rhs; rw [← List.map_id ns]
    apply List.map_congr_left
    intro n hn
    have := h n hn
    simp only [Function.comp, id]
    rw [UInt8.toNat_ofNat']
    omega
  exact ⟨by simpa [strL] using this, this⟩
theorem conv_loud (ty : TyOK P E) (hO : ∀ g o, E.orc g = some o → Contract P g o) (h : Sim P E st a w Z pv bl) {t0 t : TypeId} {x : Operand} (hop : o.op = .convert t0 t x) (he : evOp E o st K = some r) : Loud P E st a w Z bl o K r := by
  simp only [evOp, hop] at he
  have hx := h.op x
  have hexec : ∀ {v : Value} {w' : World}, (convert t0 t (a.eval x)).run P w = .ok v w' → (execOp a.eval o).run P w = .ok (.value v) w' := by
    intro v w' hr
    simp only [execOp, hop]
    rw [Sem.run_bind, hr]; rfl
  have bytes : slIs E t0 (.i .u8) = true → E.ty t = some .s → ∀ l, sn E st (.sl (.i .u8)) (st.op x) = some l → K (.val .s l) st = some r → Loud P E st a w Z bl o K r := by
    intro hsl hts l hl hk
    obtain ⟨e, hd, hu⟩ := slIs_some hsl
    have hrep := sn_sound hO h hx hl
    obtain ⟨ad, c, e0, hc, hr⟩ := hrep.slC
    have hv := (List.cons.inj e0).1
    rcases hr with rfl | ⟨b, off, row, rfl, hb, hrow, hm⟩
    · have hrun : (convert t0 t (a.eval x)).run P w = .ok (.string ByteArray.empty) w := by
        rw [hv]
        have h1 := ty.sl t0 e hd
        have h2 := ty.int e .u8 hu
        have h3 := ty.str t hts
        cases ad with
        | none => simp [convert, run_underlying h1, run_underlying h2, run_underlying h3, Conv.bytesToString]
        | some ad => exact run_convert_bytes_back (P := P) w t0 t e ad c [] h1 h2 h3 (fun j hj => by simp at hj)
      exact Loud.value (hexec hrun) h (Tr.refl _ _ _) (.val (RepV.str (s := ByteArray.empty))) hk (.kept (Kept.refl w) (Keep.refl _ _ _))
    · obtain ⟨hrow', hns, hcell⟩ := cellsBytes hrow hm
      obtain ⟨s1, s2⟩ := strL_ofInts hns
      have hrun := run_convert_bytes_back (P := P) w t0 t e ⟨b, off, none⟩ c (l.map fun n => UInt8.ofNat n.toNat) (ty.sl t0 e hd) (ty.int e .u8 hu) (ty.str t hts) (fun j hj => by
        have hj' : j < l.length := by simpa using hj
        rw [add_mid0, hcell j hj']
        have : (((l.map fun n => UInt8.ofNat n.toNat).map (fun b : UInt8 => (b.toNat : Int))))[j]? = some l[j] := by rw [s2]; simp [hj']
        rw [List.getElem?_map, List.getElem?_eq_getElem hj] at this
        rw [← Option.some.inj this])
      rw [List.length_map] at hrun
      rw [← s1] at hk
      exact Loud.value (hexec (by rw [hv]; exact hrun)) h (Tr.refl _ _ _) (.val RepV.str) hk (.kept (Kept.refl w) (Keep.refl _ _ _))
  unfold evConv at he
  split at he
  · rename_i k n hxe
    rw [hxe] at hx
    split at he
    · rename_i hsrc
      split at he
      · rename_i k' hdst
        obtain ⟨t1, ht1⟩ := isTy_some hsrc
        obtain ⟨d, hd, _⟩ := ty.agg t0 t1 ht1
        obtain ⟨hv, _⟩ := RepV.int_inv hx.val_inv
        refine Loud.value (hexec ?_) h (Tr.refl _ _ _) (.val (RepV.int (intOk_wrap k' n))) he (.kept (Kept.refl w) (Keep.refl _ _ _))
        rw [hv]
        simp [convert, run_underlying hd, run_underlying (ty.int t k' hdst), Conv.intToInt]
      · cases he
    · cases he
  · rename_i l hxe
    have hx' := hx
    rw [hxe] at hx
    split at he
    · rename_i hsrc
      obtain ⟨s, hv, rfl⟩ := RepV.str_inv hx.val_inv
      have h0 := ty.str t0 (eTy_some hsrc)
      split at he
      · rename_i hdst
        refine Loud.value (hexec ?_) h (Tr.refl _ _ _) hx' he (.kept (Kept.refl w) (Keep.refl _ _ _))
        rw [hv]
        simp [convert, run_underlying h0, run_underlying (ty.str t hdst)]
      · rename_i e hds hns
        split at he
        · rename_i hu8
          split at he
          · rename_i hlen
            have hu := isU8_some hu8
            have hrun := run_bytes_of_string (P := P) w t0 t e s h0 (ty.sl t e hds) (ty.int e .u8 hu)
            rw [strL_length] at hlen
            have hge := grownCap_ge w s.size 0 e
            have hcm := grownCap_le_maxLen w s.size 0 e (maxLen_le hlen)
            have hsz : (bytesRow s (grownCap w s.size 0 e)).size = grownCap w s.size 0 e * (T.i .u8).sz := by
              simp [bytesRow, T.sz]
              have : s.data.size = s.size := rfl
              omega
            obtain ⟨pv', bl', q1, q2, q3, q4⟩ := h.newArr (w' := w.drew.alloc (.cells (bytesRow s (grownCap w s.size 0 e)) e ((bytesRow s (grownCap w s.size 0 e)).size, (bytesRow s (grownCap w s.size 0 e)).size + 1))) (Kept.drew w _) (q := 1) (by omega) hu (bytes_rows (P := P) (Z := Z) (w := w) s)
              (cap := grownCap w s.size 0 e) (heap_alloc_new w.drew _) (by show (w.heap.push _).size = _; simp) (by rw [strL_length]; exact hge) hcm hsz (by simp [bytesRow]) (.inr ⟨by omega, Nat.le_refl _⟩)
            rw [strL_length] at q3
            exact Loud.value (hexec (by rw [hv]; exact hrun)) q1 q2 q3 he (.kept (Kept.drew w _) (q4 _ _))
          · cases he
        · cases he
      · cases he
    · cases he
  · split at he
    · rename_i hsl
      split at he
      · rename_i hts
        split at he
        · rename_i l hl
          exact bytes hsl hts l hl he
        · cases he
      · cases he
    · cases he
end
end Ev
/- Operations that act (5): slices written out, append. -/
namespace Ev
open Go
section
variable {P : Program} {E : Env} {st : St} {a : Act} {w : World} {Z : Zn} {pv : Nat → Value} {bl : Nat → Option Nat} {R : Type} {K : AV → St → Option R} {r : R} {o : Oper}

theorem partsL_sound (hO : ∀ g o, E.orc g = some o → Contract P g o) (h : Sim P E st a w Z pv bl) {u : T} : ∀ (ps : List (Nat × AV)) (vs : List (Nat × Value)) (i : Nat) (l : List u.in) (cells : Array Value) (ids : List Nat),
    VPs (cx P E st w Z pv bl) ps vs → partsL E st u i ps = some l → (∀ x ∈ tchs st (ps.map (·.2)), x ∈ ids) → cells.size = (i + ps.length) * u.sz →
    ∃ cells' xs, Instr.fill (fun i => some (i * u.sz, u.sz)) cells vs = some cells' ∧ cells'.size = cells.size ∧ Rows (RepC P u (Zt Z bl ids) w) l xs ∧ cells'.toList = cells.toList.take (i * u.sz) ++ xs ∧ l.length = ps.length := by
  intro ps
  induction ps with
  | nil =>
    intro vs i l cells ids hv hx _ hsz
    cases vs with
    | cons _ _ => cases hv
    | nil =>
      obtain rfl := Option.some.inj hx
      refine ⟨cells, [], rfl, rfl, .nil, ?_, rfl⟩
      rw [List.append_nil, List.take_of_length_le (by simp at hsz ⊢; omega)]
  | cons p ps ih =>
    intro vs i l cells ids hv hx hids hsz
    cases vs with
    | nil => cases hv
    | cons q vs =>
      obtain ⟨j, av⟩ := p
      obtain ⟨j', v⟩ := q
      obtain ⟨rfl, h1, h2⟩ := hv
      simp only [partsL] at hx
      split at hx
      · rename_i hj
        obtain rfl := Nat.eq_of_beq_eq_true hj
        split at hx
        · rename_i b hb
          split at hx
          · rename_i l' hl'
            obtain rfl := Option.some.inj hx
            have hrep := sn_sound hO h h1 hb
            have hz : Zle (Zt Z bl (tch st av)) (Zt Z bl ids) := Zt.mono fun x hx => hids x (by rw [tchs_cons]; exact List.mem_append_left _ hx)
            have hrep' := hrep.2.mono hz (Agree.refl _ _)
            have hlen := RepC.length u b _ hrep'
            simp only [List.length_cons] at hsz
            have hfit : i * u.sz + v.cells.toList.length ≤ cells.size := by
              rw [hlen, hsz, ← Nat.succ_mul]; exact Nat.mul_le_mul_right _ (by omega)
            obtain ⟨cells', e1, e2, e3⟩ := fill_step (place := fun i => some (i * u.sz, u.sz)) (cells := cells) (i := i) (off := i * u.sz) (v := v) (rest := vs) (vs := v.cells.toList) (by rw [hlen]) rfl hfit
            obtain ⟨c2, xs, g1, g2, g3, g4, g5⟩ := ih vs (i + 1) l' cells' ids h2 hl' (fun x hx => hids x (by rw [tchs_cons]; exact List.mem_append_right _ hx)) (by rw [e3, hsz]; congr 1; omega)
            refine ⟨c2, v.cells.toList ++ xs, e1.trans g1, g2.trans e3, .cons hrep' g3, ?_, by simp [g5]⟩
            rw [g4, e2, ← List.append_assoc]
            congr 1
            unfold splice
            have hlt : (cells.toList.take (i * u.sz) ++ v.cells.toList).length = (i + 1) * u.sz := by
              rw [List.length_append, List.length_take, hlen, Nat.add_mul]
              have : i * u.sz ≤ cells.toList.length := by simp; omega
              omega
            rw [List.take_append_of_le_length (by omega), List.take_of_length_le (by omega)]
          · cases hx
        · cases hx
      · cases hx
theorem run_buildSlice {t e : TypeId} {i : TypeInfo} {z : Value} (ht : P.underlying t = some (.slice e)) (hi : P.info? e = some i) (hz : i.zero = some z) {n : Nat} {parts : Array (Nat × Value)} (hn : n * i.size ≤ 16777216) :
    ∃ zc : Array Value, ∀ (w : World) cells, Instr.fill (fun j => some (j * i.size, i.size)) (madeCells zc (n * i.size)) parts.toList = some cells →
      (Instr.buildSlice t n parts).run P w = .ok (.slice (some ⟨w.heap.size, 0, none⟩) n n) (w.alloc (.cells cells e)) := by
  have hn' : ¬ (16777216 < n * i.size) := by omega
  by_cases h0 : n * i.size = 0
  · refine ⟨#[], fun w cells hf => ?_⟩
    unfold madeCells at hf
    rw [h0] at hf
    have hf' : Instr.fill (fun j => some (j * i.size, i.size)) #[] parts.toList = some cells := by simpa [Array.range_zero'] using hf
    simp [Instr.buildSlice, run_underlying ht, Go.sizeOf, typeInfo, hi, h0, hf', newRow, Array.range_zero']
  · refine ⟨z.cells, fun w cells hf => ?_⟩
    unfold madeCells at hf
    simp [Instr.buildSlice, run_underlying ht, Go.sizeOf, typeInfo, zeroValue, hi, hz, h0, hn', hf, newRow]
theorem buildSlice_loud (ty : TyOK P E) (hO : ∀ g o, E.orc g = some o → Contract P g o) (h : Sim P E st a w Z pv bl) {t : TypeId} {n : Nat} {ps : Array (Nat × Operand)} (hop : o.op = .buildSlice t n ps) (he : evOp E o st K = some r) : Loud P E st a w Z bl o K r := by
  simp only [evOp, hop] at he
  have hps := h.parts ps.toList
  unfold evBuildSlice at he
  split at he
  · rename_i e hds
    split at he
    · rename_i u hu
      split at he
      · rename_i hn
        simp only [Bool.and_eq_true] at hn
        have hn1 := Nat.eq_of_beq_eq_true hn.1
        have hn2 : n * u.sz ≤ 16777216 := Nat.le_of_ble_eq_true hn.2.1
        have hn3 : n ≤ 16777216 := Nat.le_of_ble_eq_true hn.2.2
        split at he
        · rename_i l hl
          obtain ⟨i, z, i1, i2, i3, i4, i5, i6⟩ := ty.info e u hu
          obtain ⟨zc, hrun⟩ := run_buildSlice (P := P) (parts := ps.map fun p => (p.1, a.eval p.2)) (ty.sl t e hds) i1 i4 (n := n) (by rw [i2]; exact hn2)
          rw [i2] at hrun
          have hsz0 : (madeCells zc (n * u.sz)).size = (0 + (ps.toList.map fun p => (p.1, st.op p.2)).length) * u.sz := by
            rw [size_madeCells, Nat.zero_add, ← hn1]
          obtain ⟨cells, xs, e1, e2, e3, e4, e5⟩ := partsL_sound hO h _ _ 0 l (madeCells zc (n * u.sz)) _ hps hl (fun x hx => hx) hsz0
          have hcl : cells.toList = xs := by rw [e4, Nat.zero_mul, List.take_zero, List.nil_append]
          have hln : l.length = n := by rw [e5, ← hn1]
          have hsize : cells.size = n * u.sz := by rw [e2, size_madeCells]
          obtain ⟨pv', bl', q1, q2, q3, q4⟩ := (h.ro _).newArr (w' := w.alloc (.cells cells e)) (kept_alloc w _) (q := 0) (by omega) hu e3 (fr := (0, 0)) (cap := n) (alloc_new w _) (alloc_size w _) (by omega) (maxLen_le (by omega)) hsize (by rw [hcl]; exact List.take_of_length_le (Nat.le_refl _)) (.inl rfl)
          rw [hln] at q3
          refine Loud.value ?_ q1 ((Tr.ro _ _ _ _).trans q2) q3 (by rw [ro_nx]; exact he) (.kept (kept_alloc w _) ((Keep.ro _ _ _ _).trans (q4 _ _) (fun _ h => h)))
          simp only [execOp, hop]
          rw [Sem.run_bind, hrun w cells (by simpa using e1)]; rfl
        · cases he
      · cases he
    · cases he
  · cases he

/-! ### append -/
theorem Own.owns {e : TypeId} {u : T} {l : List u.in} {v : Value} (h : Own P Z w e u l 0 v) : ∃ xs, Rows (RepC P u Z w) l xs ∧ w.ownsRow 0 e u.sz v l.length xs := by
  obtain ⟨xs, h1, h2⟩ := h
  have hl := Rows.len_eq RepC.len h1
  refine ⟨xs, h1, hl, ?_⟩
  rcases h2 with ⟨rfl, rfl⟩ | ⟨g, cap, cur, fr, rfl, h3, h4, h5, h6, h7, h8⟩
  · exact .inl ⟨rfl, rfl⟩
  · rcases h8 with rfl | ⟨q, _⟩
    · exact .inr ⟨g, cap, cur, rfl, Nat.zero_le _, h3, h4, h5, h6, by rw [← hl]; exact h7⟩
    · exact absurd rfl q
theorem owns_own {e : TypeId} {u : T} {l : List u.in} {v : Value} {xs : List Value} (h1 : Rows (RepC P u Z w) l xs) (h2 : w.ownsRow 0 e u.sz v l.length xs) : Own P Z w e u l 0 v := by
  have hl := Rows.len_eq RepC.len h1
  refine ⟨xs, h1, ?_⟩
  rcases h2.2 with ⟨rfl, q⟩ | ⟨g, cap, cur, rfl, _, h3, h4, h5, h6, h7⟩
  · exact .inl ⟨rfl, List.length_eq_zero_iff.1 q⟩
  · exact .inr ⟨g, cap, cur, (0, 0), rfl, h3, h4, h5, h6, by rw [hl]; exact h7, .inl rfl⟩
/-- append onto a slice of the function's own, of whatever. -/
theorem run_append_src {w : World} {t tx ty e : TypeId} {i : TypeInfo} {z : Value} (ht : P.underlying t = some (.slice e)) (hi : P.info? e = some i) (hz : i.zero = some z) (hzs : z.cells.size = i.size) {v x : Value} {n m : Nat} {xs news : List Value}
    (hown : w.ownsRow 0 e i.size v n xs) (hs : Src P i.size tx x m news w) (h63 : n + m ≤ maxLen) (hbytes : (n + m) * i.bytes ≤ 140737488355328) :
    ∃ v' w', (Builtin.append_ #[t, tx] ty #[v, x]).run P w = .ok v' w' ∧ w'.ownsRow 0 e i.size v' (n + m) (xs ++ news) ∧ w.grownBy w' v.ownBlock ∧ (∀ b, v'.ownBlock = some b → v.ownBlock = some b ∨ w.heap.size ≤ b) := by
  have hsmall : n + m ≤ 9223372036854775807 := by simp only [maxLen] at h63; omega
  have hl := hs.newsLen
  have hlen : (xs ++ news).length = (n + m) * i.size := by rw [List.length_append, hown.1, hl, Nat.add_mul]
  have grown : ∀ (old : Nat), old < n + m → ∀ (row : Option Nat),
      (w.drew.alloc (.cells ((xs ++ news).toArray ++ Builtin.zeroCells z.cells (grownCap w (n + m) old e - (n + m))) e)).ownsRow 0 e i.size
        (.slice (some ⟨w.heap.size, 0, none⟩) (n + m) (grownCap w (n + m) old e)) (n + m) (xs ++ news) ∧
      w.grownBy (w.drew.alloc (.cells ((xs ++ news).toArray ++ Builtin.zeroCells z.cells (grownCap w (n + m) old e - (n + m))) e)) row := by
    intro old ho row
    have hge := grownCap_ge w (n + m) old e
    have hcm : grownCap w (n + m) old e ≤ maxLen := grownCap_le_maxLen w (n + m) old e h63
    refine ⟨⟨hlen, .inr ⟨w.heap.size, _, _, rfl, Nat.zero_le _, heap_alloc_new w.drew _, hge, hcm, ?_, ?_⟩⟩, ⟨rfl, rfl, rfl, by simp, fun k hk _ => heap_alloc_old w.drew _ k hk⟩⟩
    · simp only [Array.size_append, List.size_toArray, size_zeroCells, hzs, hlen, ← Nat.add_mul]
      congr 1
      omega
    · simp only [Array.toList_append]
      rw [← hlen]
      exact List.take_left
  rcases hown.2 with ⟨rfl, rfl⟩ | ⟨g, cap, cur, rfl, hbg, hg, hnc, hcm, hcs, htake⟩
  · have hx : xs = [] := List.eq_nil_of_length_eq_zero (by simpa using hown.1)
    subst hx
    by_cases hm : m = 0
    · subst hm
      have hn : news = [] := List.eq_nil_of_length_eq_zero (by simpa using hl)
      subst hn
      refine ⟨.slice none 0 0, w, ?_, World.ownsRow_nil w 0 e i.size, ⟨rfl, rfl, rfl, Nat.le_refl _, fun _ _ _ => rfl⟩, fun b hb => by cases hb⟩
      have hc := hs.cells
      rcases hs.kind with ⟨e', hk⟩ | hk <;> simp [Builtin.append_, run_underlying ht, run_underlying hk, Go.sizeOf, typeInfo, hi, hs.len, hc]
    · have hr := run_append_grow_src (P := P) w t tx ty e i z ht hi hz none 0 0 [] (by simpa using run_firstCells_none (P := P) w.drew i.size 0 0 0) x m news hs (by omega) (by omega) (growslice_fits (by omega) hbytes)
      have hgr := grown 0 (by omega) (Value.ownBlock (.slice none 0 0))
      exact ⟨_, _, hr, hgr.1, hgr.2, fun b hb => by simp [Value.ownBlock] at hb; exact .inr (by omega)⟩
  · by_cases hroom : n + m ≤ cap
    · have hfit : n * i.size + news.length ≤ cur.size := by rw [hl, hcs, ← Nat.add_mul]; exact Nat.mul_le_mul_right _ hroom
      have hr := run_append_room_src (P := P) w t tx ty e i ht hi g 0 n cap x m news hs hroom (fun j hj => by rw [cell_at hg]; simp; omega) (fun j hj => frozen_at hg (.inl rfl) (by omega))
      obtain ⟨row', g1, g2, g3⟩ := setCells_put news (0 + n * i.size) w cur hg (by omega)
      have hgl := (Array.getElem?_eq_some_iff.1 hg).1
      rw [g1] at hr
      refine ⟨_, _, hr, ⟨hlen, .inr ⟨g, cap, row', rfl, hbg, putBlk_same hgl, hroom, hcm, by rw [g3]; exact hcs, ?_⟩⟩, ⟨rfl, rfl, rfl, by rw [putBlk_size]; exact Nat.le_refl _, fun k hk hne => putBlk_ne (fun e => hne (by simp [Value.ownBlock, e]))⟩, fun b hb => .inl hb⟩
      have hxl : xs.length ≤ cur.toList.length := by rw [hown.1, Array.length_toList, hcs]; exact Nat.mul_le_mul_right _ hnc
      have e1 : cur.toList.take (n * i.size) = xs := htake
      rw [g2, ← hlen, Nat.zero_add]
      unfold splice
      rw [e1]
      exact List.take_left
    · have holds : ∀ j u, xs[j]? = some u → w.drew.cell? ((⟨g, 0, none⟩ : Addr).add j) = some u := by simpa using hown.cells (g := g) rfl
      have hr := run_append_grow_src (P := P) w t tx ty e i z ht hi hz (some ⟨g, 0, none⟩) n cap xs (run_firstCells_some (P := P) w.drew i.size n ⟨g, 0, none⟩ n cap xs hown.1 holds) x m news hs (by omega) (by omega) (growslice_fits (by omega) hbytes)
      have hgr := grown cap (by omega) (Value.ownBlock (.slice (some ⟨g, 0, none⟩) n cap))
      exact ⟨_, _, hr, hgr.1, hgr.2, fun b hb => by simp [Value.ownBlock] at hb; exact .inr (by omega)⟩

/-- What the second argument yields. -/
theorem appendSrc_sound (ty : TyOK P E) (hO : ∀ g o, E.orc g = some o → Contract P g o) (h : Sim P E st a w Z pv bl) {e tx : TypeId} {u : T} {i : TypeInfo} (hu : E.ty e = some u) (_hi : P.info? e = some i) (hsz : i.size = u.sz) {av : AV} {v : Value} {l : List u.in}
    (hv : RAV (cx P E st w Z pv bl) av v) (hs : appendSrc E st tx u av = some l) : ∃ news, Src P i.size tx v l.length news w ∧ Rows (RepC P u (Zt Z bl (tch st av)) w) l news := by
  have sl : slIs E tx u = true → sn E st (.sl u) av = some l → ∃ news, Src P i.size tx v l.length news w ∧ Rows (RepC P u (Zt Z bl (tch st av)) w) l news := by
    intro h1 h2
    obtain ⟨e', hd, hu'⟩ := slIs_some h1
    have hk := ty.sl tx e' hd
    have hrep := sn_sound hO h hv h2
    obtain ⟨ad, c, e0, hc, hr⟩ := hrep.slC
    have hvv := (List.cons.inj e0).1
    rcases hr with rfl | ⟨b, off, row, rfl, hb, hrow, hm⟩
    · rw [hvv]
      cases ad with
      | none => exact ⟨[], Src.ofNil w hk c, .nil⟩
      | some ad => exact ⟨[], Src.ofSlice w hk ad 0 c [] (by simp) (fun j u h => by simp at h) (fun u h => by cases h), .nil⟩
    · rw [hvv]
      have hl := Rows.len_eq RepC.len hrow
      refine ⟨row, Src.ofSlice w hk _ _ _ row (by rw [hsz]; exact hl) (fun j x hj => ?_) (Rows.one (ty.plain e u hu) hrow), hrow⟩
      obtain ⟨rw', e2, fr, g1, g2, g3⟩ := hm
      have hjl := (List.getElem?_eq_some_iff.1 hj).1
      rw [add_mid0, cell_at g1]
      rw [← g3, List.getElem?_take, if_pos hjl, List.getElem?_drop] at hj
      simpa using hj
  unfold appendSrc at hs
  split at hs
  · rename_i s
    split at hs
    · rename_i hts
      obtain ⟨e1, e2⟩ := cast_some hs
      injection e1 with e1
      subst e1
      subst e2
      obtain ⟨s, hvv, rfl⟩ := RepV.str_inv hv.val_inv
      have h1 : i.size = 1 := hsz
      rw [hvv, h1]
      refine ⟨byteCells s, ?_, bytes_rows s⟩
      have := Src.ofString (P := P) w (ty.str tx (eTy_some hts)) s
      have hl : (strL s).length = s.size := strL_length s
      simpa [hl] using this
    · cases hs
  · split at hs
    · rename_i h1; exact sl h1 hs
    · cases hs
theorem Rows.flat {t : T} (hf : t.flat = true) {Z Z' : Zn} {w w' : World} {l : List t.in} {cs : List Value} (h : Rows (RepC P t Z w) l cs) : Rows (RepC P t Z' w') l cs := h.imp fun _ _ q => flat_rep t hf q
/-- An object that is given up. -/
theorem Sim.drop (h : Sim P E st a w Z pv bl) (o : Nat) : Sim P E (st.set o .gone) a w Z pv (upd bl o none) ∧ Ext (cx P E st w Z pv bl) (cx P E (st.set o .gone) w Z pv (upd bl o none)) := by
  have hx : Ext (cx P E st w Z pv bl) (cx P E (st.set o .gone) w Z pv (upd bl o none)) := by
    refine ⟨rfl, rfl, fun _ h => h, Agree.refl _ _, Nat.le_refl _, fun o' e u l k _ hx => ⟨rfl, ?_⟩, fun o' e x _ hx => ?_, fun o' m k v l q _ hx => ⟨rfl, ?_⟩⟩
    · have hx' : upd st.hp o .gone o' = .arr e u l k := hx
      by_cases he : o' = o
      · subst he; rw [upd_same] at hx'; cases hx'
      · rw [upd_ne _ _ he] at hx'; exact ⟨l, k, hx'⟩
    · have hx' : upd st.hp o .gone o' = .box e x := hx
      by_cases he : o' = o
      · subst he; rw [upd_same] at hx'; cases hx'
      · rw [upd_ne _ _ he] at hx'; exact ⟨upd_ne _ _ he, x, hx'⟩
    · have hx' : upd st.hp o .gone o' = .map m k v l q := hx
      by_cases he : o' = o
      · subst he; rw [upd_same] at hx'; cases hx'
      · rw [upd_ne _ _ he] at hx'; exact ⟨l, q, hx'⟩
  have hle : ∀ o' b, upd bl o none o' = some b → o' ≠ o ∧ bl o' = some b := fun o' b hb => by
    by_cases he : o' = o
    · subst he; rw [upd_same] at hb; cases hb
    · rw [upd_ne _ _ he] at hb; exact ⟨he, hb⟩
  refine ⟨⟨h.n, h.defers, h.out, fun i hi => (h.slots i hi).ext hx, fun o' ho => ?_, fun o' ho => ?_, fun o1 o2 b h1 h2 => h.inj o1 o2 b (hle _ _ h1).2 (hle _ _ h2).2, fun o' b hb => h.own o' b (hle _ _ hb).2, h.zok⟩, hx⟩
  · show RepOb _ o' (upd st.hp o .gone o')
    by_cases he : o' = o
    · subst he; rw [upd_same]; exact upd_same _ _ _
    · rw [upd_ne _ _ he]; exact (h.obs o' ho).ext hx (upd_ne _ _ he) rfl (fun _ _ => rfl)
  · have h1 := h.fresh o' ho
    by_cases he : o' = o
    · subst he; exact ⟨upd_same _ _ _, upd_same _ _ _⟩
    · exact ⟨(upd_ne _ _ he).trans h1.1, (upd_ne _ _ he).trans h1.2⟩
/-- A world that has turned where nobody looks. -/
theorem Sim.away (h : Sim P E st a w Z pv bl) {w' : World} {row : Option Nat} (hg : w.grownBy w' row) (hr : ∀ b, row = some b → ¬ Z b ∧ ∀ o, bl o ≠ some b) : Sim P E st a w' Z pv bl ∧ Ext (cx P E st w Z pv bl) (cx P E st w' Z pv bl) := by
  have hag : Agree Z w w' := fun b hb => hg.block b (h.zok b hb) (fun e => (hr b e.symm).1 hb)
  have hx : Ext (cx P E st w Z pv bl) (cx P E st w' Z pv bl) := ⟨rfl, rfl, fun _ h => h, hag, Nat.le_refl _, fun o e u l q _ h => ⟨rfl, l, q, h⟩, fun o e x _ h => ⟨rfl, x, h⟩, fun o m q v l r _ h => ⟨rfl, l, r, h⟩⟩
  refine ⟨⟨h.n, h.defers, h.out, fun i hi => (h.slots i hi).ext hx, fun o ho => (h.obs o ho).ext hx rfl rfl (fun b hb => hg.block b (h.own o b hb).2 (fun e => (hr b e.symm).2 o hb)), h.fresh, h.inj, fun o b hb => ⟨(h.own o b hb).1, Nat.lt_of_lt_of_le (h.own o b hb).2 hg.size⟩, fun b hb => Nat.lt_of_lt_of_le (h.zok b hb) hg.size⟩, hx⟩
theorem Tr.away {w w' : World} {row : Option Nat} (hg : w.grownBy w' row) (Z : Zn) {bl bl' : Nat → Option Nat} (hr : ∀ b, row = some b → ∃ o, bl o = some b) (hb : ∀ o b, bl' o = some b → (∃ o', bl o' = some b) ∨ w.heap.size ≤ b) : Tr w Z bl w' Z bl' :=
  ⟨hg.os, hg.tape, hg.output, hg.size, fun b hl hn => hg.block b hl (fun e => by obtain ⟨o, ho⟩ := hr b e.symm; exact hn o ho), fun _ h => h, fun _ h => .inl h, hb⟩

/-- What the two kinds of append come to: from a state in which what is appended is told. -/
theorem append_fin (_ty : TyOK P E) {st1 : St} {Z1 : Zn} {bl1 : Nat → Option Nat} (_h : Sim P E st a w Z pv bl) (htr : Tr w Z bl w Z1 bl1) (h1 : Sim P E st1 a w Z1 pv bl1) {e : TypeId} {u : T} (hu : E.ty e = some u) {l l2 : List u.in} {v' : Value} {xs : List Value} {w' : World} {row : Option Nat}
    (hrows : Rows (RepC P u Z1 w) (l ++ l2) xs) (hown : w'.ownsRow 0 e u.sz v' (l ++ l2).length xs) (hg : w.grownBy w' row) (hr1 : ∀ b, row = some b → ¬ Z1 b ∧ (∀ o, bl1 o ≠ some b) ∧ b < w.heap.size ∧ ∃ o2 ∈ wrIds E st o.op, bl o2 = some b) (hv : ∀ b, v'.ownBlock = some b → row = some b ∨ w.heap.size ≤ b)
    (hkp : Keep bl Z1 bl1 (wrIds E st o.op)) (hexec : (execOp a.eval o).run P w = .ok (.value v') w') (hk : K (.sl st1.nx) (st1.new (.arr e u (l ++ l2) 0)) = some r) : Loud P E st a w Z bl o K r := by
  obtain ⟨h2, hx2⟩ := h1.away hg (fun b hb => ⟨(hr1 b hb).1, (hr1 b hb).2.1⟩)
  have hO : Own P Z1 w' e u (l ++ l2) 0 v' := owns_own (hrows.imp fun _ _ q => q.mono hx2.zle hx2.agree) hown
  have hnew := h2.new (ob := .arr e u (l ++ l2) 0) (vn := v') (bn := v'.ownBlock) (fun b hb => by
    rcases hv b hb with q | q
    · have := hr1 b q
      exact ⟨this.2.1, this.1, Nat.lt_of_lt_of_le this.2.2.1 hg.size⟩
    · refine ⟨fun o ho => ?_, fun hz => ?_, (hown.lt b hb).2⟩
      · have := (h1.own o b ho).2; omega
      · have := h1.zok b hz; omega) ⟨hu, .inl ⟨Nat.zero_le _, by
        show Own P Z1 w' e u (l ++ l2) 0 (upd pv st1.nx v' st1.nx)
        rw [upd_same]; exact hO, by
        show upd bl1 st1.nx _ st1.nx = (upd pv st1.nx v' st1.nx).ownBlock
        rw [upd_same, upd_same]⟩⟩
  have htr2 : Tr w Z bl w' Z1 (upd bl1 st1.nx v'.ownBlock) := by
    refine ⟨hg.os, hg.tape, hg.output, hg.size, fun b hl hn => hg.block b hl (fun e => ?_), htr.zle, htr.znew, fun o b hb => ?_⟩
    · obtain ⟨_, _, _, o, _, ho⟩ := hr1 b e.symm
      exact hn o ho
    · by_cases he : o = st1.nx
      · subst he
        rw [upd_same] at hb
        rcases hv b hb with q | q
        · obtain ⟨_, _, _, o2, _, ho⟩ := hr1 b q
          exact .inl ⟨o2, ho⟩
        · exact .inr q
      · rw [upd_ne _ _ he] at hb
        exact htr.bnew o b hb
  exact Loud.value (av := .sl st1.nx) hexec hnew htr2 (.ref rfl ⟨Nat.lt_succ_self _, fun _ _ _ _ _ => (upd_same _ _ _).symm⟩) hk ⟨fun b hb hne => hg.block b hb (fun e => by
    obtain ⟨_, _, _, o2, hm, ho⟩ := hr1 b e.symm
    exact hne o2 hm ho), hkp.trans (Keep.new h1 _ _ _) (fun _ h => h)⟩
theorem bytes_fit {n m b : Nat} (h1 : n + m ≤ 17179869184) (h2 : b ≤ 4096) : (n + m) * b ≤ 140737488355328 :=
  Nat.le_trans (Nat.mul_le_mul h1 h2) (by decide)
theorem append_loud (ty : TyOK P E) (hO : ∀ g o, E.orc g = some o → Contract P g o) (h : Sim P E st a w Z pv bl) {c : Call} {t tx : TypeId} {ts : List TypeId} {s x : Operand} (hop : o.op = .call c) (hc : c.callee = .builtin .append) (hts : c.argTypes.toList = t :: tx :: ts) (hargs : c.args.toList = [s, x])
    (he : evAppend E t tx (st.op s) (st.op x) st K = some r) : Loud P E st a w Z bl o K r := by
  have hs := h.op s
  have hx := h.op x
  have hwr : wrIds E st o.op = slIds (st.op s) := by
    rw [hop]
    simp only [wrIds, hc, hargs]
  have hexec : ∀ {v : Value} {w' : World}, (Builtin.append_ #[t, tx] o.type #[a.eval s, a.eval x]).run P w = .ok v w' → (execOp a.eval o).run P w = .ok (.value v) w' := by
    intro v w' hr
    have e1 : c.args = #[s, x] := by rw [← Array.toList_inj]; exact hargs
    have e2 : Builtin.append_ c.argTypes o.type #[a.eval s, a.eval x] = Builtin.append_ #[t, tx] o.type #[a.eval s, a.eval x] := by
      have h0 : c.argTypes[0]? = some t := by rw [← Array.getElem?_toList, hts]; rfl
      have h1 : c.argTypes[1]? = some tx := by rw [← Array.getElem?_toList, hts]; rfl
      unfold Builtin.append_
      rw [h0, h1]
      rfl
    simp only [execOp, hop, resolve, hc, e1]
    simp only [Sem.run_bind, Sem.run_pure, Result.andThen_ok, invoke, builtin]
    have e3 : Array.map a.eval #[s, x] = #[a.eval s, a.eval x] := by simp
    rw [e3, e2, hr]; rfl
  unfold evAppend at he
  split at he
  · -- onto nil
    rename_i hse
    rw [hse] at hs
    have hv : a.eval s = .slice none 0 0 := hs.ref_inv rfl
    split at he
    · rename_i e hds
      split at he
      · rename_i u hu
        split at he
        · rename_i l2 hl2
          split at he
          · rename_i hlen
            split at he
            · cases he
            · rename_i h0
              obtain ⟨i, z, i1, i2, i3, i4, i5, i6⟩ := ty.info e u hu
              have hzs : z.cells.size = i.size := by
                have := RepC.length u _ _ (zero_rep (P := P) u (ty.plain e u hu) Z w)
                rw [← i6, Array.length_toList] at this
                rw [this, i2]
              obtain ⟨news, hsrc, hrows⟩ := appendSrc_sound ty hO h hu i1 i2 hx hl2
              obtain ⟨v', w', g1, g2, g3, g4⟩ := run_append_src (P := P) (tx := tx) (ty := o.type) (ty.sl t e hds) i1 i4 hzs (World.ownsRow_nil w 0 e i.size) hsrc (maxLen_le (by omega)) (bytes_fit (by omega) i3)
              rw [Nat.zero_add, i2] at g2
              have g1' := hexec (by rw [hv]; exact g1)
              have hrow : ∀ b, Value.ownBlock (.slice none 0 0) = some b → False := fun b q => by cases q
              cases hf : u.flat with
              | true =>
                rw [hf] at he
                exact append_fin ty h (Tr.refl _ _ _) h hu (l := []) (l2 := l2) (Rows.flat hf hrows) g2 g3 (fun b q => (hrow b q).elim) g4 (Keep.refl _ _ _) g1' he
              | false =>
                rw [hf] at he
                exact append_fin ty h (Tr.ro _ _ _ _) (h.ro _) hu (l := []) (l2 := l2) hrows g2 g3 (fun b q => (hrow b q).elim) g4 (Keep.ro _ _ _ _) g1' (by rw [ro_nx]; exact he)
          · cases he
        · cases he
      · cases he
    · cases he
  · -- onto a slice of the function's own
    rename_i o' hse
    rw [hse] at hs
    split at he
    · rename_i e u l hh
      split at he
      · rename_i hts'
        split at he
        · rename_i l2 hl2
          split at he
          · rename_i hlen
            split at he
            · cases he
            · rename_i h0
              have h0' : u.flat = false → memB o' (tch st (st.op x)) = false := by
                intro hf
                rw [hf] at h0
                simp only [Bool.not_false, Bool.true_and, Bool.or_eq_true, not_or] at h0
                simpa using h0.2
              have hd : E.ds t = .sl e := by
                unfold slE at hts'
                split at hts'
                · rename_i e' hd
                  rw [hd, Nat.eq_of_beq_eq_true hts']
                · cases hts'
              have hr := hs.ref_inv rfl
              have hv : a.eval s = pv o' := hr.2 _ _ _ _ hh
              have hob : RepOb (cx P E st w Z pv bl) o' (.arr e u l 0) := hh ▸ h.obs o' hr.1
              obtain ⟨hu, hown⟩ := hob
              rcases hown with ⟨_, hO2, hbl⟩ | ⟨hk2, _⟩
              · have hbl' : bl o' = (pv o').ownBlock := hbl
                have hO2' : Own P Z w e u l 0 (pv o') := hO2
                obtain ⟨i, z, i1, i2, i3, i4, i5, i6⟩ := ty.info e u hu
                have hzs : z.cells.size = i.size := by
                  have := RepC.length u _ _ (zero_rep (P := P) u (ty.plain e u hu) Z w)
                  rw [← i6, Array.length_toList] at this
                  rw [this, i2]
                obtain ⟨xs, hxs, howns⟩ := hO2'.owns
                rw [← i2] at howns
                obtain ⟨news, hsrc, hrows⟩ := appendSrc_sound ty hO h hu i1 i2 hx hl2
                obtain ⟨v', w', g1, g2, g3, g4⟩ := run_append_src (P := P) (tx := tx) (ty := o.type) (ty.sl t e hd) i1 i4 hzs howns hsrc (maxLen_le (by omega)) (bytes_fit (by omega) i3)
                rw [i2, ← List.length_append] at g2
                have g1' := hexec (by rw [hv]; exact g1)
                cases hf : u.flat with
                | true =>
                  rw [hf] at he
                  obtain ⟨hd1, _⟩ := h.drop o'
                  refine append_fin ty h ⟨rfl, rfl, rfl, Nat.le_refl _, fun _ _ _ => rfl, fun _ h => h, fun _ h => .inl h, fun o b hb => ?_⟩ hd1 hu (hxs.append (Rows.flat hf hrows)) g2 g3 (fun b q => ?_) g4 (fun o b hb hne => .inl (by rw [upd_ne _ _ (fun q => hne (by rw [hwr, hse, q]; exact List.mem_singleton.2 rfl))]; exact hb)) g1' he
                  · by_cases heq : o = o'
                    · subst heq; rw [upd_same] at hb; cases hb
                    · rw [upd_ne _ _ heq] at hb; exact .inl ⟨o, hb⟩
                  · have hb : bl o' = some b := hbl'.trans q
                    refine ⟨(h.own o' b hb).1, fun o ho => ?_, (h.own o' b hb).2, o', by rw [hwr, hse]; exact List.mem_singleton.2 rfl, hb⟩
                    by_cases heq : o = o'
                    · subst heq; rw [upd_same] at ho; cases ho
                    · rw [upd_ne _ _ heq] at ho; exact heq (h.inj o o' b ho hb)
                | false =>
                  rw [hf] at he
                  have hm := memB_false (h0' hf)
                  have hs1 := h.ro (tch st (st.op x))
                  obtain ⟨hd1, _⟩ := hs1.drop o'
                  have hb1 : blr bl (tch st (st.op x)) o' = bl o' := if_neg hm
                  refine append_fin ty h ⟨rfl, rfl, rfl, Nat.le_refl _, fun _ _ _ => rfl, Zt.le _ _ _, (Tr.ro w Z bl (tch st (st.op x))).znew, fun o b hb => ?_⟩ hd1 hu ((hxs.imp fun _ _ q => q.mono (Zt.le _ _ _) (Agree.refl _ _)).append hrows) g2 g3 (fun b q => ?_) g4 ((Keep.ro _ _ _ _).trans (fun o b hb hne => .inl (by rw [upd_ne _ _ (fun q => hne (by rw [hwr, hse, q]; exact List.mem_singleton.2 rfl))]; exact hb)) (fun _ h => h)) g1' (by
                    have e1 : ((st.ro (tch st (st.op x))).set o' .gone).nx = st.nx := ro_nx _ _
                    rw [e1]; exact he)
                  · by_cases heq : o = o'
                    · subst heq; rw [upd_same] at hb; cases hb
                    · rw [upd_ne _ _ heq] at hb; exact (Tr.ro w Z bl (tch st (st.op x))).bnew o b hb
                  · have hb : bl o' = some b := hbl'.trans q
                    have hb2 : blr bl (tch st (st.op x)) o' = some b := hb1.trans hb
                    refine ⟨(hs1.own o' b hb2).1, fun o ho => ?_, (h.own o' b hb).2, o', by rw [hwr, hse]; exact List.mem_singleton.2 rfl, hb⟩
                    by_cases heq : o = o'
                    · subst heq; rw [upd_same] at ho; cases ho
                    · rw [upd_ne _ _ heq] at ho; exact heq (hs1.inj o o' b ho hb2)
              · cases hk2
          · cases he
        · cases he
      · cases he
    · cases he
  · cases he
end
end Ev
/- Calls (1). -/
namespace Ev
open Go
section
variable {P : Program} {E : Env} {st : St} {a : Act} {w : World} {Z : Zn} {pv : Nat → Value} {bl : Nat → Option Nat} {R : Type} {K : AV → St → Option R} {r : R} {o : Oper}

theorem callArgs_sound (hO : ∀ g o, E.orc g = some o → Contract P g o) (h : Sim P E st a w Z pv bl) {ids : List Nat} : ∀ (ps : List PM) (as : List AV) (vs : List Value) (p : PIn ps), RAVs (cx P E st w Z pv bl) as vs → callArgs E st ps as = some p → (∀ x ∈ viIds st ps as, x ∈ ids) →
    ArgMem P ps (Zt Z bl ids) w p vs ((ioIds ps as).filterMap bl) := by
  intro ps
  induction ps with
  | nil =>
    intro as vs p hr hc _
    cases hr with
    | cons => simp [callArgs] at hc
    | nil => exact ⟨rfl, rfl⟩
  | cons m ps ih =>
    intro as vs p hr hc hids
    cases hr with
    | nil => cases m <;> simp [callArgs] at hc
    | @cons av as v vs hv hr =>
      cases m with
      | v t =>
        simp only [callArgs] at hc
        split at hc
        · rename_i x hx
          split at hc
          · rename_i r hr'
            obtain rfl := Option.some.inj hc
            have hrep := sn_sound hO h hv hx
            have e1 : ioIds (.v t :: ps) (av :: as) = ioIds ps as := by cases av <;> rfl
            have e2 : viIds st (.v t :: ps) (av :: as) = tch st av ++ viIds st ps as := by cases av <;> rfl
            rw [e1]
            rw [e2] at hids
            exact ⟨v, vs, rfl, hrep.mono (Zt.mono fun x hx => hids x (List.mem_append_left _ hx)) (Agree.refl _ _), ih as vs r hr hr' (fun x hx => hids x (List.mem_append_right _ hx))⟩
          · cases hc
        · cases hc
      | io e t =>
        cases av <;> simp only [callArgs] at hc <;> first | cases hc | skip
        rename_i o
        split at hc
        · rename_i e' u l hh
          split at hc
          · rename_i he
            split at hc
            · rename_i x hx
              split at hc
              · rename_i r hr'
                obtain rfl := Option.some.inj hc
                obtain rfl := Nat.eq_of_beq_eq_true he
                obtain ⟨e1, e2⟩ := cast_some hx
                injection e1 with e1
                subst e1
                have e2' : x = l := e2
                have hrf := hv.ref_inv rfl
                have hvv : v = pv o := hrf.2 _ _ _ _ hh
                have hob : RepOb (cx P E st w Z pv bl) o (.arr e u l 0) := hh ▸ h.obs o hrf.1
                rcases hob.2 with ⟨_, hown, hbl⟩ | ⟨q, _⟩
                · have hown' : Own P Z w e u l 0 (pv o) := hown
                  have hbl' : bl o = (pv o).ownBlock := hbl
                  refine ⟨v, vs, (ioIds ps as).filterMap bl, rfl, ?_, ?_, ih as vs r hr hr' (fun x hx => hids x hx)⟩
                  · show List.filterMap bl (o :: ioIds ps as) = _
                    rw [List.filterMap_cons, hvv, ← hbl']
                    cases bl o <;> rfl
                  · show Own P (Zt Z bl ids) w e u x 0 v
                    rw [hvv, e2']
                    exact hown'.mono (Zt.le _ _ _) (Agree.refl _ _) (fun _ _ => rfl)
                · cases q
              · cases hc
            · cases hc
          · cases hc
        · cases hc
      | ib e t =>
        cases av <;> try (simp only [callArgs] at hc; cases hc; done)
        rename_i o pth
        cases pth with
        | cons => simp only [callArgs] at hc; cases hc
        | nil =>
          simp only [callArgs] at hc
          split at hc
          · rename_i e' bv hh
            split at hc
            · rename_i he
              simp only [Bool.and_eq_true] at he
              split at hc
              · rename_i x hx
                split at hc
                · rename_i r hr'
                  obtain rfl := Option.some.inj hc
                  obtain rfl := Nat.eq_of_beq_eq_true he.1
                  have hrf := hv.ref_inv rfl
                  obtain ⟨b, t0, off, g1, g2, g3, g4⟩ := hrf.2 e bv hh
                  obtain rfl : off = 0 := by cases t0 <;> simpa [offT] using g3.symm
                  have hob : RepOb (cx P E st w Z pv bl) o (.box e bv) := hh ▸ h.obs o hrf.1
                  obtain ⟨t2, b2, cs, r1, r2, r3, r4⟩ := hob
                  obtain rfl : b = b2 := Option.some.inj (g1.symm.trans r2)
                  have hrep := (snap_sound hO h.obs 24).2 t2 t bv cs.toList x r4 hx
                  have e2 : viIds st (.ib e t :: ps) (.ptr o [] :: as) = tch st bv ++ viIds st ps as := by simp only [viIds, hh]
                  rw [e2] at hids
                  refine ⟨b, vs, (ioIds ps as).filterMap bl, cs, by rw [g4], ?_, r3, hrep.mono (Zt.mono fun x hx => hids x (List.mem_append_left _ hx)) (Agree.refl _ _), ih as vs r hr hr' (fun x hx => hids x (List.mem_append_right _ hx))⟩
                  show List.filterMap bl (o :: ioIds ps as) = _
                  rw [List.filterMap_cons, show bl o = some b from g1]
                · cases hc
              · cases hc
            · cases hc
          · cases hc
theorem callOut_same : ∀ (ps : List PM) (as : List AV) (p : POut ps) (st : St), (callOut ps as p st).n = st.n ∧ (callOut ps as p st).sl = st.sl ∧ (callOut ps as p st).nx = st.nx ∧ ∀ o, o ∉ ioIds ps as → (callOut ps as p st).hp o = st.hp o := by
  intro ps
  induction ps with
  | nil => intro as p st; exact ⟨rfl, rfl, rfl, fun _ _ => rfl⟩
  | cons m ps ih =>
    intro as p st
    cases as with
    | nil => cases m <;> exact ⟨rfl, rfl, rfl, fun _ _ => rfl⟩
    | cons av as =>
      cases m with
      | v t =>
        have e1 : ioIds (.v t :: ps) (av :: as) = ioIds ps as := by cases av <;> rfl
        rw [e1]
        exact ih as p st
      | io e t =>
        cases av <;> try exact ⟨rfl, rfl, rfl, fun _ _ => rfl⟩
        rename_i o
        obtain ⟨h1, h2, h3, h4⟩ := ih as p.2 (st.set o (.arr e t p.1 0))
        refine ⟨h1, h2, h3, fun o' ho => ?_⟩
        have hm : o' ≠ o ∧ o' ∉ ioIds ps as := by simpa [ioIds] using ho
        exact (h4 o' hm.2).trans (upd_ne _ _ hm.1)
      | ib e t =>
        cases av <;> try exact ⟨rfl, rfl, rfl, fun _ _ => rfl⟩
        rename_i o pth
        cases pth with
        | cons => exact ⟨rfl, rfl, rfl, fun _ _ => rfl⟩
        | nil =>
          obtain ⟨h1, h2, h3, h4⟩ := ih as p.2 (st.set o (.box e (.val t p.1)))
          refine ⟨h1, h2, h3, fun o' ho => ?_⟩
          have hm : o' ≠ o ∧ o' ∉ ioIds ps as := by simpa [ioIds] using ho
          exact (h4 o' hm.2).trans (upd_ne _ _ hm.1)
/-- What a written argument is behind the call. -/
def IOb (P : Program) (E : Env) (Z' : Zn) (w' : World) (pv : Nat → Value) (bl : Nat → Option Nat) (o : Nat) (old new : Ob) : Prop :=
  (∃ e t l l0, new = .arr e t l 0 ∧ old = .arr e t l0 0 ∧ E.ty e = some t ∧ bl o = (pv o).ownBlock ∧ Own P Z' w' e t l 0 (pv o)) ∨
  (∃ e t y v0 b cs, new = .box e (.val t y) ∧ old = .box e v0 ∧ E.ty e = some t ∧ bl o = some b ∧ w'.heap[b]? = some (.cells cs e (0, 0)) ∧ RepC P t Z' w' y cs.toList)
theorem callOut_io (h : Sim P E st a w Z pv bl) {Z' : Zn} {w' : World} : ∀ (ps : List PM) (as : List AV) (vs : List Value) (p : POut ps) (x : PIn ps) (st' : St), RAVs (cx P E st w Z pv bl) as vs → callArgs E st ps as = some x → (ioIds ps as).Nodup → OutMem P ps Z' w' p vs →
    ∀ o ∈ ioIds ps as, o < st.nx ∧ IOb P E Z' w' pv bl o (st.hp o) ((callOut ps as p st').hp o) := by
  intro ps
  induction ps with
  | nil => intro as vs p x st' _ _ _ _ o ho; simp [ioIds] at ho
  | cons m ps ih =>
    intro as vs p x st' hr hc hnd hout o ho
    cases hr with
    | nil => cases m <;> simp [ioIds] at ho
    | @cons av as v vs hv hr =>
      cases m with
      | v t =>
        have e1 : ioIds (.v t :: ps) (av :: as) = ioIds ps as := by cases av <;> rfl
        rw [e1] at ho hnd
        simp only [callArgs] at hc
        split at hc
        · split at hc
          · rename_i r hr'
            obtain ⟨_, _, q, hout⟩ := hout
            cases q
            exact ih as vs p r st' hr hr' hnd hout o ho
          · cases hc
        · cases hc
      | io e t =>
        cases av <;> simp only [callArgs] at hc <;> first | cases hc | skip
        rename_i o1
        split at hc
        · rename_i e' u l hh
          split at hc
          · rename_i he
            split at hc
            · rename_i x1 hx
              split at hc
              · rename_i r hr'
                obtain rfl := Nat.eq_of_beq_eq_true he
                obtain ⟨e1, e2⟩ := cast_some hx
                injection e1 with e1
                subst e1
                obtain ⟨_, _, q, hown, hout⟩ := hout
                cases q
                have hnd' : o1 ∉ ioIds ps as ∧ (ioIds ps as).Nodup := List.nodup_cons.1 hnd
                have hrf := hv.ref_inv rfl
                have hvv : v = pv o1 := hrf.2 _ _ _ _ hh
                rcases List.mem_cons.1 (show o ∈ o1 :: ioIds ps as from ho) with rfl | ho
                · have hob : RepOb (cx P E st w Z pv bl) o (.arr e u l 0) := hh ▸ h.obs o hrf.1
                  rcases hob.2 with ⟨_, _, hbl⟩ | ⟨q, _⟩
                  · refine ⟨hrf.1, .inl ⟨e, u, p.1, l, ?_, hh, hob.1, hbl, hvv ▸ hown⟩⟩
                    exact ((callOut_same ps as p.2 (st'.set o (.arr e u p.1 0))).2.2.2 o hnd'.1).trans (upd_same _ _ _)
                  · cases q
                · exact ih as vs p.2 r (st'.set o1 (.arr e u p.1 0)) hr hr' hnd'.2 hout o ho
              · cases hc
            · cases hc
          · cases hc
        · cases hc
      | ib e t =>
        cases av <;> try (simp only [callArgs] at hc; cases hc; done)
        rename_i o1 pth
        cases pth with
        | cons => simp only [callArgs] at hc; cases hc
        | nil =>
          simp only [callArgs] at hc
          split at hc
          · rename_i e' bv hh
            split at hc
            · rename_i he
              simp only [Bool.and_eq_true] at he
              split at hc
              · split at hc
                · rename_i r hr'
                  obtain rfl := Nat.eq_of_beq_eq_true he.1
                  obtain ⟨b', _, cs, q, hcell, hrep, hout⟩ := hout
                  cases q
                  have hnd' : o1 ∉ ioIds ps as ∧ (ioIds ps as).Nodup := List.nodup_cons.1 hnd
                  have hrf := hv.ref_inv rfl
                  obtain ⟨b, t0, off, g1, g2, g3, g4⟩ := hrf.2 e bv hh
                  cases g4
                  rcases List.mem_cons.1 (show o ∈ o1 :: ioIds ps as from ho) with rfl | ho
                  · refine ⟨hrf.1, .inr ⟨e, t, p.1, bv, b', cs, ?_, hh, eTy_some he.2, g1, hcell, hrep⟩⟩
                    exact ((callOut_same ps as p.2 (st'.set o (.box e (.val t p.1)))).2.2.2 o hnd'.1).trans (upd_same _ _ _)
                  · exact ih as vs p.2 r (st'.set o1 (.box e (.val t p.1))) hr hr' hnd'.2 hout o ho
                · cases hc
              · cases hc
            · cases hc
          · cases hc
/-- The state behind a call. -/
theorem Sim.called {st1 st2 : St} {w' : World} {Z1 Z' : Zn} {bl1 : Nat → Option Nat} {L : List Nat} (h : Sim P E st1 a w Z1 pv bl1) (hn : st2.n = st1.n) (hsl : st2.sl = st1.sl) (hnx : st2.nx = st1.nx) (hz : Zle Z1 Z') (hs : Step L w w')
    (hZ : ∀ b, Z' b → Z1 b ∨ (w.heap.size ≤ b ∧ b < w'.heap.size)) (IO : Nat → Prop) (hL : ∀ b ∈ L, ∃ o, IO o ∧ bl1 o = some b) (hother : ∀ o, ¬ IO o → st2.hp o = st1.hp o) (hio : ∀ o, IO o → o < st1.nx ∧ IOb P E Z' w' pv bl1 o (st1.hp o) (st2.hp o)) :
    Sim P E st2 a w' Z' pv bl1 ∧ Ext (cx P E st1 w Z1 pv bl1) (cx P E st2 w' Z' pv bl1) ∧ Tr w Z1 bl1 w' Z' bl1 := by
  classical
  have hag : Agree Z1 w w' := hs.agree h.zok (fun b hb hz => by obtain ⟨o, _, ho⟩ := hL b hb; exact (h.own o b ho).1 hz)
  have hx : Ext (cx P E st1 w Z1 pv bl1) (cx P E st2 w' Z' pv bl1) := by
    refine ⟨rfl, rfl, hz, hag, Nat.le_of_eq hnx.symm, fun o e u l k ho hx => ⟨rfl, ?_⟩, fun o e x ho hx => ⟨rfl, ?_⟩, fun o m k v l q ho hx => ⟨rfl, ?_⟩⟩
    · have hx' : st2.hp o = .arr e u l k := hx
      by_cases hi : IO o
      · rcases (hio o hi).2 with ⟨e', t, l', l0, g1, g2, _⟩ | ⟨e', t, y, v0, b, cs, g1, g2, _⟩
        · rw [g1] at hx'; cases hx'; exact ⟨_, _, g2⟩
        · rw [g1] at hx'; cases hx'
      · rw [hother o hi] at hx'; exact ⟨l, k, hx'⟩
    · have hx' : st2.hp o = .box e x := hx
      by_cases hi : IO o
      · rcases (hio o hi).2 with ⟨e', t, l', l0, g1, g2, _⟩ | ⟨e', t, y, v0, b, cs, g1, g2, _⟩
        · rw [g1] at hx'; cases hx'
        · rw [g1] at hx'; cases hx'; exact ⟨_, g2⟩
      · rw [hother o hi] at hx'; exact ⟨x, hx'⟩
    · have hx' : st2.hp o = .map m k v l q := hx
      by_cases hi : IO o
      · rcases (hio o hi).2 with ⟨e', t, l', l0, g1, g2, _⟩ | ⟨e', t, y, v0, b, cs, g1, g2, _⟩
        · rw [g1] at hx'; cases hx'
        · rw [g1] at hx'; cases hx'
      · rw [hother o hi] at hx'; exact ⟨l, q, hx'⟩
  refine ⟨⟨hn.trans h.n, h.defers, fun i hi => by rw [hsl]; exact h.out i (hn ▸ hi), fun i hi => by rw [hsl]; exact (h.slots i (hn ▸ hi)).ext hx, fun o ho => ?_, fun o ho => ?_, h.inj, fun o b hb => ⟨fun hz' => ?_, Nat.lt_of_lt_of_le (h.own o b hb).2 hs.size⟩, fun b hb => ?_⟩, hx, ⟨hs.os, hs.tape, hs.output, hs.size, fun b hb hno => hs.block b hb (fun hm => by obtain ⟨o, _, ho⟩ := hL b hm; exact hno o ho), hz, fun b hb => (hZ b hb).imp id (fun q => .inr q.1), fun o b hb => .inl ⟨o, hb⟩⟩⟩
  · by_cases hi : IO o
    · rcases (hio o hi).2 with ⟨e', t, l', l0, g1, g2, g3, g4, g5⟩ | ⟨e', t, y, v0, b, cs, g1, g2, g3, g4, g5, g6⟩
      · rw [g1]; exact ⟨g3, .inl ⟨Nat.zero_le _, g5, g4⟩⟩
      · rw [g1]; exact ⟨t, b, cs, g3, g4, g5, .val g6⟩
    · rw [hother o hi]
      rw [hnx] at ho
      refine (h.obs o ho).ext hx rfl rfl (fun b hb => hs.block b (h.own o b hb).2 (fun hm => ?_))
      obtain ⟨o', hi', ho'⟩ := hL b hm
      have := h.inj o o' b hb ho'
      exact hi (this ▸ hi')
  · have ho' : st1.nx ≤ o := hnx ▸ ho
    have h1 := h.fresh o ho'
    refine ⟨?_, h1.2⟩
    rw [hother o (fun hi => by have := (hio o hi).1; omega)]
    exact h1.1
  · rcases hZ b hz' with q | q
    · exact (h.own o b hb).1 q
    · have := (h.own o b hb).2; omega
  · rcases hZ b hb with q | q
    · exact Nat.lt_of_lt_of_le (h.zok b q) hs.size
    · exact q.2
/-- What comes back. -/
theorem impRT_sound {a : Act} {w : World} {Z : Zn} : ∀ (r : RT) (x : r.in) (v : Value) (L : List Nat) (st : St) (pv : Nat → Value) (bl : Nat → Option Nat), Sim P E st a w Z pv bl → rtOk E r = true → RetMem P r Z w x v L → L.Nodup → (∀ b ∈ L, b < w.heap.size ∧ ¬ Z b ∧ ∀ o, bl o ≠ some b) →
    ∃ pv' bl', Sim P E (impRT r x st).2 a w Z pv' bl' ∧ Ext (cx P E st w Z pv bl) (cx P E (impRT r x st).2 w Z pv' bl') ∧ RAV (cx P E (impRT r x st).2 w Z pv' bl') (impRT r x st).1 v ∧ (∀ o b, bl' o = some b → (∃ o', bl o' = some b) ∨ b ∈ L) ∧ (r.tail = true → ∃ vs, (impRT r x st).1 = .tup vs) ∧ (∀ o b, bl o = some b → bl' o = some b) := by
  intro r
  induction r with
  | v t =>
    intro x v L st pv bl h _ hr _ _
    exact ⟨pv, bl, h, Ext.refl _, .val hr.1, fun o b hb => .inl ⟨o, hb⟩, (fun q => by cases q), fun _ _ q => q⟩
  | un =>
    intro x v L st pv bl h _ hr _ _
    obtain ⟨rfl, _⟩ := hr
    exact ⟨pv, bl, h, Ext.refl _, .tup .nil, fun o b hb => .inl ⟨o, hb⟩, (fun _ => ⟨[], rfl⟩), fun _ _ q => q⟩
  | o e t =>
    intro x v L st pv bl h hok hr _ hb
    obtain ⟨hown, rfl⟩ := hr
    have hty := eTy_some hok
    have hmem : ∀ b, v.ownBlock = some b → b ∈ v.ownBlock.toList := fun b q => by rw [q]; simp
    have hnew := h.new (ob := .arr e t x 0) (vn := v) (bn := v.ownBlock) (fun b q => ⟨(hb b (hmem b q)).2.2, (hb b (hmem b q)).2.1, (hb b (hmem b q)).1⟩) ⟨hty, .inl ⟨Nat.zero_le _, by
        show Own P Z w e t x 0 (upd pv st.nx v st.nx)
        rw [upd_same]; exact hown, by
        show upd bl st.nx _ st.nx = (upd pv st.nx v st.nx).ownBlock
        rw [upd_same, upd_same]⟩⟩
    refine ⟨_, _, hnew, h.extNew _ _ _, .ref rfl ⟨Nat.lt_succ_self _, fun _ _ _ _ _ => (upd_same _ _ _).symm⟩, fun o b q => ?_, (fun q => by cases q), fun o b q => ?_⟩
    by_cases he : o = st.nx
    · subst he; rw [upd_same] at q; exact .inr (hmem b q)
    · rw [upd_ne _ _ he] at q; exact .inl ⟨o, q⟩
    · rcases Keep.new h Z v.ownBlock [] o b q (fun q => by cases q) with q | q
      · exact q
      · exact absurd q (h.own o b ‹_›).1
  | pr x y ihx ihy =>
    intro p v L st pv bl h hok hr hnd hb
    obtain ⟨v1, vs, L1, L2, ht, rfl, rfl, h1, h2⟩ := hr
    simp only [rtOk, Bool.and_eq_true] at hok
    have hnd' := List.nodup_append.1 hnd
    obtain ⟨pv1, bl1, a1, a2, a3, a4, _, a6⟩ := ihx p.1 v1 L1 st pv bl h hok.1 h1 hnd'.1 (fun b q => hb b (List.mem_append_left _ q))
    obtain ⟨pv2, bl2, b1, b2, b3, b4, b5, b6⟩ := ihy p.2 _ L2 (impRT x p.1 st).2 pv1 bl1 a1 hok.2 h2 hnd'.2.1 (fun b q => by
      refine ⟨(hb b (List.mem_append_right _ q)).1, (hb b (List.mem_append_right _ q)).2.1, fun o ho => ?_⟩
      rcases a4 o b ho with ⟨o', q'⟩ | q'
      · exact (hb b (List.mem_append_right _ q)).2.2 o' q'
      · exact hnd'.2.2 b q' b q rfl)
    obtain ⟨us, hus⟩ := b5 ht
    have e : (impRT (.pr x y) p st).1 = .tup ((impRT x p.1 st).1 :: us) := by simp only [impRT, hus]
    refine ⟨pv2, bl2, b1, a2.trans b2, ?_, fun o b q => ?_, (fun _ => ⟨_, e⟩), fun o b q => b6 o b (a6 o b q)⟩
    · rw [e]
      rw [hus] at b3
      obtain ⟨us', q1, q2⟩ := b3.tup_inv
      obtain rfl : vs.toArray = us' := Value.tuple.inj q1
      exact .tup (.cons (a3.ext b2) q2)
    · rcases b4 o b q with ⟨o', q'⟩ | q'
      · rcases a4 o' b q' with q' | q'
        · exact .inl q'
        · exact .inr (List.mem_append_left _ q')
      · exact .inr (List.mem_append_right _ q')
end
end Ev
/- Calls (2). -/
namespace Ev
open Go
section
variable {P : Program} {E : Env} {st : St} {a : Act} {w : World} {Z : Zn} {pv : Nat → Value} {bl : Nat → Option Nat} {R : Type} {K : AV → St → Option R} {r : R} {o : Oper}

theorem contains_false {x : Nat} {ys : List Nat} (h : (!ys.contains x) = true) : x ∉ ys := by
  intro hm
  have : ys.contains x = true := List.contains_iff_mem.2 hm
  rw [this] at h; cases h
theorem nodupB_nodup : ∀ {l : List Nat}, nodupB l = true → l.Nodup
  | [], _ => List.nodup_nil
  | x :: l, h => by
    simp only [nodupB, Bool.and_eq_true] at h
    exact List.nodup_cons.2 ⟨contains_false h.1, nodupB_nodup h.2⟩
theorem apartB_apart : ∀ {l m : List Nat}, apartB l m = true → ∀ x ∈ l, x ∉ m
  | [], _, _, x, hx => by cases hx
  | y :: l, m, h, x, hx => by
    simp only [apartB, Bool.and_eq_true] at h
    rcases List.mem_cons.1 hx with rfl | hx
    · exact contains_false h.1
    · exact apartB_apart h.2 x hx
theorem Own.flat {e : TypeId} {t : T} {l : List t.in} {k : Nat} {v : Value} {Z' : Zn} (hf : t.flat = true) (h : Own P Z w e t l k v) : Own P Z' w e t l k v := by
  obtain ⟨xs, h1, h2⟩ := h
  exact ⟨xs, Rows.flat hf h1, h2⟩
theorem RetMem.flat {Z' : Zn} : ∀ (r : RT) {x : r.in} {v : Value} {L : List Nat}, r.fz = false → RetMem P r Z w x v L → RetMem P r Z' w x v L := by
  intro r
  induction r with
  | v t => intro x v L hf h; exact ⟨⟨h.1.1, flat_rep t (by simpa [RT.fz] using hf) h.1.2⟩, h.2⟩
  | o e t => intro x v L hf h; exact ⟨h.1.flat (by simpa [RT.fz] using hf), h.2⟩
  | un => intro x v L _ h; exact h
  | pr x y ihx ihy =>
    intro p v L hf h
    simp only [RT.fz, Bool.or_eq_false_iff] at hf
    obtain ⟨v1, vs, L1, L2, ht, e1, e2, h1, h2⟩ := h
    exact ⟨v1, vs, L1, L2, ht, e1, e2, ihx hf.1 h1, ihy hf.2 h2⟩
theorem OutMem.flat {Z' : Zn} : ∀ (ps : List PM) {p : POut ps} {vs : List Value}, outFz ps = false → OutMem P ps Z w p vs → OutMem P ps Z' w p vs := by
  intro ps
  induction ps with
  | nil => intro p vs _ h; exact h
  | cons m ps ih =>
    intro p vs hf h
    cases m with
    | v t => obtain ⟨v, q, e, h⟩ := h; exact ⟨v, q, e, ih hf h⟩
    | io e t =>
      simp only [outFz, Bool.or_eq_false_iff] at hf
      obtain ⟨v, q, e, h1, h2⟩ := h
      exact ⟨v, q, e, h1.flat (by simpa using hf.1), ih hf.2 h2⟩
    | ib e t =>
      simp only [outFz, Bool.or_eq_false_iff] at hf
      obtain ⟨b, q, cs, e, h1, h2, h3⟩ := h
      exact ⟨b, q, cs, e, h1, flat_rep t (by simpa using hf.1) h2, ih hf.2 h3⟩
theorem Step.keptOf {L : List Nat} {w w' : World} (h : Step L w w') : w.heap.size ≤ w'.heap.size := h.size
theorem filterMap_nodup (h : Sim P E st a w Z pv bl) : ∀ {l : List Nat}, l.Nodup → (l.filterMap bl).Nodup
  | [], _ => List.nodup_nil
  | o :: l, hn => by
    have hn' := List.nodup_cons.1 hn
    rw [List.filterMap_cons]
    cases hb : bl o with
    | none => exact filterMap_nodup h hn'.2
    | some b =>
      refine List.nodup_cons.2 ⟨fun hm => ?_, filterMap_nodup h hn'.2⟩
      obtain ⟨o', ho', hb'⟩ := List.mem_filterMap.1 hm
      exact hn'.1 (h.inj o o' b hb hb' ▸ ho')

/-- A call of a function, once it is entered. -/
theorem go_core (hO : ∀ g o, E.orc g = some o → Contract P g o) (h : Sim P E st a w Z pv bl) {g : FuncId} {as : List AV} {vs : List Value} (hargs : RAVs (cx P E st w Z pv bl) as vs) (he : evGo E g as st K = some r) :
    Enters P g ∧ ∀ (next : Act → World → Prop) (Q : Exit → Act → World → Prop) (dst : Option Nat),
      (∀ v av st' w' Z' pv' bl', Sim P E st' a w' Z' pv' bl' → Tr w Z bl w' Z' bl' → RAV (cx P E st' w' Z' pv' bl') av v → K av st' = some r → Wrote bl w Z' bl' w' (goIds E g as) → next (a.put dst v) w') →
      Calls P g vs.toArray w fun
        | .returned v, w'' => next (a.put dst v) w''
        | .panicked chain, w'' => Q (.panic chain) a w''
        | .outgrown, _ => LetsOut Q := by
  unfold evGo at he
  split at he
  · rename_i oc hoc
    have hg := hO g oc hoc
    refine ⟨hg.enters, fun next Q dst hn => ?_⟩
    split at he
    · rename_i p hp
      split at he
      · rename_i hc
        simp only [Bool.and_eq_true] at hc
        obtain ⟨hc1, hc2, hc3⟩ := hc
        have hnd := nodupB_nodup hc1
        have hap := apartB_apart hc2
        cases hF : oc.F p with
        | none => rw [hF] at he; cases he
        | some y =>
          rw [hF] at he
          have hs1 := h.ro (viIds st oc.ps as)
          have hA := callArgs_sound hO h (ids := viIds st oc.ps as) oc.ps as vs p hargs hp (fun x hx => hx)
          have hL : ∀ b ∈ (ioIds oc.ps as).filterMap bl, ∃ o, o ∈ ioIds oc.ps as ∧ bl o = some b := fun b hb => by
            obtain ⟨o, h1, h2⟩ := List.mem_filterMap.1 hb
            exact ⟨o, h1, h2⟩
          have hblr : ∀ o ∈ ioIds oc.ps as, blr bl (viIds st oc.ps as) o = bl o := fun o ho => if_neg (hap o ho)
          have hrun := hg.run w (Zt Z bl (viIds st oc.ps as)) p vs _ y hF hs1.zok hA (filterMap_nodup h hnd) (fun b hb => by
            obtain ⟨o, ho1, ho2⟩ := hL b hb
            exact ⟨(h.own o b ho2).2, (hs1.own o b ((hblr o ho1).trans ho2)).1⟩)
          refine hrun.mono fun e w' => ?_
          rintro ⟨v, Z2, L1, rfl, hstep, hz2, hzn, hret, hnd1, hL1, hout⟩
          -- from the state that the written arguments leave
          have fin : ∀ {st1 : St} {Z1 Z' : Zn} {bl1 : Nat → Option Nat}, Sim P E st1 a w Z1 pv bl1 → Tr w Z bl w Z1 bl1 → Ext (cx P E st w Z pv bl) (cx P E st1 w Z1 pv bl1) → (∀ o ∈ ioIds oc.ps as, bl1 o = bl o ∧ st1.hp o = st.hp o) → st1.nx = st.nx → Keep bl Z1 bl1 (goIds E g as) →
              Zle Z1 Z' → (∀ b, Z' b → Z1 b ∨ (w.heap.size ≤ b ∧ b < w'.heap.size)) → OutMem P oc.ps Z' w' (retOut oc.ps y) vs → RetMem P oc.rt Z' w' (retRes oc.ps y) v L1 → (∀ b, Z' b → Z2 b) →
              K (impRT oc.rt (retRes oc.ps y) (callOut oc.ps as (retOut oc.ps y) st1)).1 (impRT oc.rt (retRes oc.ps y) (callOut oc.ps as (retOut oc.ps y) st1)).2 = some r → next (a.put dst v) w' := by
            intro st1 Z1 Z' bl1 hsim htr hext hio hnx hkp hz1 hzz hom hrm hzle2 hk
            obtain ⟨c1, c2, c3, c4⟩ := callOut_same oc.ps as (retOut oc.ps y) st1
            obtain ⟨d1, d2, d3⟩ := hsim.called (st2 := callOut oc.ps as (retOut oc.ps y) st1) c1 c2 c3 hz1 hstep hzz (fun o => o ∈ ioIds oc.ps as) (fun b hb => by
              obtain ⟨o, h1, h2⟩ := hL b hb
              exact ⟨o, h1, (hio o h1).1.trans h2⟩) (fun o ho => c4 o ho) (fun o ho => by
              obtain ⟨q1, q2⟩ := callOut_io h oc.ps as vs (retOut oc.ps y) p st1 hargs hp hnd hom o ho
              refine ⟨by rw [hnx]; exact q1, ?_⟩
              rw [(hio o ho).2]
              unfold IOb at q2 ⊢
              rw [(hio o ho).1]
              exact q2)
            obtain ⟨pv', bl', e1, e2, e3, e4, _, e6⟩ := impRT_sound oc.rt (retRes oc.ps y) v L1 _ pv bl1 d1 hc3 hrm hnd1 (fun b hb => by
              obtain ⟨q1, q2, q3⟩ := hL1 b hb
              refine ⟨q2, fun q => q3 (hzle2 b q), fun o ho => ?_⟩
              have := (hsim.own o b ho).2
              omega)
            have t := htr.trans d3
            refine hn v _ _ w' Z' pv' bl' e1 ⟨t.os, t.tape, t.output, t.size, t.frame, t.zle, t.znew, fun o b hb => ?_⟩ e3 hk ⟨fun b hb hne => hstep.block b hb (fun hm => by
              obtain ⟨o, h1, h2⟩ := hL b hm
              exact hne o (by simp only [goIds, hoc]; exact h1) h2), hkp.trans (fun o b q _ => .inl (e6 o b q)) hz1⟩
            rcases e4 o b hb with ⟨o', q⟩ | q
            · exact t.bnew o' b q
            · exact .inr (hL1 b q).1
          cases hfz : (oc.rt.fz || outFz oc.ps) with
          | true =>
            simp only [hfz, Option.bind_some, if_true] at he
            exact fin hs1 (Tr.ro _ _ _ _) (h.extRo _) (fun o ho => ⟨hblr o ho, by rw [ro_hp, if_neg (hap o ho)]⟩) (ro_nx _ _) (Keep.ro _ _ _ _) hz2 hzn hout hret (fun _ h => h) he
          | false =>
            simp only [hfz, Option.bind_some] at he
            simp only [Bool.or_eq_false_iff] at hfz
            exact fin h (Tr.refl _ _ _) (Ext.refl _) (fun o ho => ⟨rfl, rfl⟩) rfl (Keep.refl _ _ _) (fun _ h => h) (fun _ h => .inl h) (hout.flat oc.ps hfz.2) (hret.flat oc.rt hfz.1) (fun b hb => hz2 b (Zt.le _ _ _ b hb)) he
      · cases he
    · cases he
  · cases he
theorem RAV.clo_inv {c : Cx} {g : FuncId} {f q : List AV} {v : Value} (h : RAV c (.clo g f q) v) : ∃ fs qs : Array Value, v = .func (.func g) fs qs ∧ RAVs c f fs.toList ∧ RAVs c q qs.toList := by
  cases h with
  | ref h1 _ => simp [AV.one] at h1
  | clo h1 h2 => exact ⟨_, _, rfl, h1, h2⟩
theorem RAVs.append {c : Cx} : ∀ {as bs : List AV} {vs us : List Value}, RAVs c as vs → RAVs c bs us → RAVs c (as ++ bs) (vs ++ us)
  | _, _, _, _, .nil, h => h
  | _, _, _, _, .cons a b, h => .cons a (RAVs.append b h)
theorem run_enter {g : FuncId} (hE : Enters P g) (c : Call) (f : Operand) (hc : c.callee = .value f) (hop : o.op = .call c) {fs qs : Array Value} (hf : a.eval f = .func (.func g) fs qs) : (execOp a.eval o).run P w = .ok (.enter g ((fs ++ c.args.map a.eval) ++ qs)) w := by
  obtain ⟨fn, h1, h2, h3⟩ := hE
  have h2' : fn.name ≠ "runtime.NumGoroutine" := by simpa using h2
  have h3' : fn.body ≠ none := fun q => by rw [q] at h3; cases h3
  simp only [execOp, hop, resolve, hc, hf, Deferred.ofValue]
  simp [invoke, callFunc, program, Sem.run, h1, h2', h3']
theorem call_go_loud (hO : ∀ g o, E.orc g = some o → Contract P g o) (h : Sim P E st a w Z pv bl) {c : Call} {f : Operand} {g : FuncId} {first caps : List AV} (hop : o.op = .call c) (hc : c.callee = .value f) (hf : st.op f = .clo g first caps)
    (he : evGo E g (first ++ c.args.toList.map st.op ++ caps) st K = some r) : Loud P E st a w Z bl o K r := by
  have hv := h.op f
  rw [hf] at hv
  obtain ⟨fs, qs, e1, h1, h2⟩ := hv.clo_inv
  have hargs := ((h1.append (h.ops c.args.toList)).append h2)
  obtain ⟨hE, hcall⟩ := go_core hO h hargs he
  intro next Q hn
  unfold Oper.wp
  rw [run_enter hE c f hc hop e1]
  have e2 : (fs ++ Array.map a.eval c.args ++ qs) = (fs.toList ++ c.args.toList.map a.eval ++ qs.toList).toArray := by simp
  rw [e2]
  exact hcall next Q o.dst (fun v av st' w' Z' pv' bl' h1 h2 h3 h4 h5 => hn v av st' w' Z' pv' bl' h1 h2 h3 h4 (by
    have e : wrIds E st o.op = goIds E g (first ++ c.args.toList.map st.op ++ caps) := by rw [hop]; simp only [wrIds, hc, hf]
    rw [e]; exact h5))

/-! ### A call of a function value -/
theorem toTup_sound (hO : ∀ g o, E.orc g = some o → Contract P g o) (h : Sim P E st a w Z pv bl) {ids : List Nat} : ∀ (x : T) (as : List AV) (vs : List Value) (p : x.in), RAVs (cx P E st w Z pv bl) as vs → toTup E st x as = some p → (∀ y ∈ tchs st as, y ∈ ids) → RepTs P x (Zt Z bl ids) w p vs := by
  intro x
  induction x with
  | un =>
    intro as vs p hr hc _
    cases hr with
    | nil => rfl
    | cons => simp [toTup] at hc
  | pr x y ihx ihy =>
    intro as vs p hr hc hids
    cases hr with
    | nil => simp [toTup] at hc
    | @cons av as v vs hv hr =>
      simp only [toTup] at hc
      split at hc
      · rename_i q hq
        split at hc
        · rename_i s hs
          obtain rfl := Option.some.inj hc
          have hrep := sn_sound hO h hv hq
          have hrep' := hrep.mono (Zt.mono (Z := Z) (bl := bl) fun z hz => hids z (List.mem_append_left _ hz)) (Agree.refl _ _)
          exact ⟨v, v.cells.toList, vs, rfl, asV_cells.2 hrep'.1, hrep'.2, ihy as vs s hr hs (fun z hz => hids z (List.mem_append_right _ hz))⟩
        · cases hc
      · cases hc
  | _ => intro as vs p hr hc; simp [toTup] at hc
theorem fromTup_sound {c : Cx} : ∀ (y : T) (p : y.in) (vs : List Value), RepTs c.P y c.Z c.w p vs → RAVs c (fromTup y p) vs := by
  intro y
  induction y with
  | pr x y ihx ihy =>
    intro p vs h
    obtain ⟨v, cs, r, rfl, h1, h2, h3⟩ := h
    exact .cons (.val ⟨h1.2, by have := h1.1; subst this; exact h2⟩) (ihy p.2 r h3)
  | un => intro p vs h; rw [show vs = [] from h]; exact .nil
  | _ => intro p vs h; exact h.elim
theorem fn_loud (hO : ∀ g o, E.orc g = some o → Contract P g o) (h : Sim P E st a w Z pv bl) {c : Call} {f : Operand} {x y : T} {φ : x.in → Option y.in} (hop : o.op = .call c) (hc : c.callee = .value f) (hf : st.op f = .val (.fn x y) φ)
    (he : evFn E x y φ (c.args.toList.map st.op) st K = some r) : Loud P E st a w Z bl o K r := by
  have hv := h.op f
  rw [hf] at hv
  have hrep := hv.val_inv
  obtain ⟨hag, g, first, caps, e1, hE, hcalls⟩ := hrep
  have hE : Enters P g := hE
  have e1' : a.eval f = .func (.func g) first caps := one_inv (P := P) (Z := Z) (w := w) ⟨hag, g, first, caps, e1, hE, hcalls⟩ e1 rfl
  unfold evFn at he
  split at he
  · rename_i q hq
    cases hφ : φ q with
    | none => rw [hφ] at he; cases he
    | some z =>
      rw [hφ] at he
      have he : K (fnRes y z) (if y.flat = true then st else st.ro (tchs st (c.args.toList.map st.op))) = some r := he
      have hs1 := h.ro (tchs st (c.args.toList.map st.op))
      have hts := toTup_sound hO h (ids := tchs st (c.args.toList.map st.op)) x _ _ q (h.ops c.args.toList) hq (fun _ h => h)
      have hrun := hcalls (Zt Z bl (tchs st (c.args.toList.map st.op))) w q _ z (Zt.le _ _ _) (Agree.refl _ _) hs1.zok hts hφ
      intro next Q hn
      unfold Oper.wp
      rw [run_enter hE c f hc hop e1']
      have e2 : (first ++ Array.map a.eval c.args ++ caps) = first ++ (c.args.toList.map a.eval).toArray ++ caps := by
        rw [← Array.toList_map]
      rw [e2]
      refine hrun.mono fun e w' => ?_
      rintro ⟨v, cs, Z2, rfl, hstep, hz2, hzn, has, hrr⟩
      have hrv : ∀ {Z' : Zn}, (rel P y).1 Z' w' z cs → RepV P y Z' w' z v := fun q => ⟨has.2, by rw [← has.1]; exact q⟩
      -- the value
      have hval : ∀ {cc : Cx}, cc.P = P → cc.w = w' → (rel P y).1 cc.Z w' z cs → RAV cc (fnRes y z) v := by
        intro cc hP hw hq
        have := hrv hq
        cases y with
        | tu t =>
          obtain ⟨_, us, e3, h3⟩ := this
          have : v = .tuple us := one_inv (P := P) (Z := cc.Z) (w := w') ⟨has.2, us, e3, h3⟩ e3 rfl
          rw [this]
          refine .tup (fromTup_sound t z _ ?_)
          rw [hP, hw]; exact h3
        | _ => exact .val (by rw [hP, hw]; exact this)
      have fin : ∀ {st1 : St} {Z1 Z' : Zn} {bl1 : Nat → Option Nat}, Sim P E st1 a w Z1 pv bl1 → Tr w Z bl w Z1 bl1 → (∀ o b, bl o = some b → bl1 o = some b ∨ Z1 b) → Zle Z1 Z' → (∀ b, Z' b → Z1 b ∨ (w.heap.size ≤ b ∧ b < w'.heap.size)) → (rel P y).1 Z' w' z cs → K (fnRes y z) st1 = some r → next (a.put o.dst v) w' := by
        intro st1 Z1 Z' bl1 hsim htr hkp hz1 hzz hrel hk
        obtain ⟨d1, d2, d3⟩ := hsim.called (st2 := st1) rfl rfl rfl hz1 hstep hzz (fun _ => False) (fun b hb => by cases hb) (fun o _ => rfl) (fun o ho => ho.elim)
        exact hn v _ st1 w' Z' pv bl1 d1 (htr.trans d3) (hval rfl rfl hrel) hk ⟨fun b hb _ => hstep.block b hb (fun q => by cases q), fun o b hb _ => by
          rcases hkp o b hb with q | q
          · exact .inl q
          · exact .inr (hz1 b q)⟩
      cases hfl : y.flat with
      | true =>
        rw [hfl] at he
        exact fin h (Tr.refl _ _ _) (fun _ _ q => .inl q) (fun _ h => h) (fun _ h => .inl h) ((flat_rel y hfl).1 hrr) he
      | false =>
        rw [hfl] at he
        exact fin hs1 (Tr.ro _ _ _ _) (fun o b q => Keep.ro bl Z _ [] o b q (fun q => by cases q)) hz2 hzn hrr he
  · cases he
end
end Ev
/- Every operation. -/
namespace Ev
open Go
section
variable {P : Program} {E : Env} {st : St} {a : Act} {w : World} {Z : Zn} {pv : Nat → Value} {bl : Nat → Option Nat} {R : Type} {K : AV → St → Option R} {r : R} {o : Oper}

theorem builtin_inv {b : Builtin} {tys : List TypeId} {xs : List Operand} (hc : evBuiltin E b tys (xs.map st.op) st K = some r) :
    (b = .len ∧ ∃ t ts x, tys = t :: ts ∧ xs = [x] ∧ evLen E t st (st.op x) (fun v => K v st) = some r) ∨
    (b = .append ∧ ∃ t t2 ts s x, tys = t :: t2 :: ts ∧ xs = [s, x] ∧ evAppend E t t2 (st.op s) (st.op x) st K = some r) ∨
    (∃ lt, b = (if lt = true then .min else .max) ∧ ∃ x y, xs = [x, y] ∧ evMM lt (st.op x) (st.op y) (fun v => K v st) = some r) := by
  cases b <;> (try (simp only [evBuiltin] at hc; cases hc; done))
  · -- append
    right; left
    refine ⟨rfl, ?_⟩
    cases tys with
    | nil => simp only [evBuiltin] at hc; cases hc
    | cons t ts =>
      cases ts with
      | nil => simp only [evBuiltin] at hc; cases hc
      | cons t2 ts =>
        cases xs with
        | nil => simp only [evBuiltin, List.map] at hc; cases hc
        | cons s xs =>
          cases xs with
          | nil => simp only [evBuiltin, List.map] at hc; cases hc
          | cons x xs =>
            cases xs with
            | nil => exact ⟨t, t2, ts, s, x, rfl, rfl, hc⟩
            | cons _ _ => simp only [evBuiltin, List.map] at hc; cases hc
  · -- len
    left
    refine ⟨rfl, ?_⟩
    cases tys with
    | nil => simp only [evBuiltin] at hc; cases hc
    | cons t ts =>
      cases xs with
      | nil => simp only [evBuiltin, List.map] at hc; cases hc
      | cons x xs =>
        cases xs with
        | nil => exact ⟨t, ts, x, rfl, rfl, hc⟩
        | cons _ _ => simp only [evBuiltin, List.map] at hc; cases hc
  · right; right
    refine ⟨false, rfl, ?_⟩
    cases xs with
    | nil => simp only [evBuiltin, List.map] at hc; cases hc
    | cons x xs =>
      cases xs with
      | nil => simp only [evBuiltin, List.map] at hc; cases hc
      | cons y xs =>
        cases xs with
        | nil => exact ⟨x, y, rfl, by simpa only [evBuiltin, List.map] using hc⟩
        | cons _ _ => simp only [evBuiltin, List.map] at hc; cases hc
  · right; right
    refine ⟨true, rfl, ?_⟩
    cases xs with
    | nil => simp only [evBuiltin, List.map] at hc; cases hc
    | cons x xs =>
      cases xs with
      | nil => simp only [evBuiltin, List.map] at hc; cases hc
      | cons y xs =>
        cases xs with
        | nil => exact ⟨x, y, rfl, by simpa only [evBuiltin, List.map] using hc⟩
        | cons _ _ => simp only [evBuiltin, List.map] at hc; cases hc
theorem call_quiet (ty : TyOK P E) (h : Sim P E st a w Z pv bl) {c : Call} (hop : o.op = .call c) {b : Builtin} (hb : c.callee = .builtin b) (hna : b ≠ .append) (he : evOp E o st K = some r) : Quiet P E st a w Z bl o K r := by
  have he' : evBuiltin E b c.argTypes.toList (c.args.toList.map st.op) st K = some r := by
    have := he
    simp only [evOp, hop, evCall, hb] at this
    exact this
  rcases builtin_inv he' with ⟨rfl, t, ts, x, h1, h2, h3⟩ | ⟨rfl, _⟩ | ⟨lt, rfl, x, y, h1, h2⟩
  · exact len_quiet ty h hop hb h1 h2 h3
  · exact absurd rfl hna
  · exact mm_quiet h lt hop hb h1 h2
theorem op_quiet (ty : TyOK P E) (hO : ∀ g o, E.orc g = some o → Contract P g o) (h : Sim P E st a w Z pv bl) (hq : quietOp o.op = true) (he : evOp E o st K = some r) : Quiet P E st a w Z bl o K r := by
  cases hop : o.op with
  | move x => simp only [evOp, hop] at he; exact move_quiet h (by simp only [execOp, hop]) he
  | assign x => simp only [evOp, hop] at he; exact move_quiet h (by simp only [execOp, hop]) he
  | pick c x y => exact pick_quiet h hop he
  | binOp b t x y u => exact bin_quiet ty hO h hop he
  | unOp b t x => exact un_quiet h hop he
  | load t x => exact load_quiet ty h hop he
  | nilCheck x => exact nilcheck_quiet h hop he
  | fieldAddr t x f => exact fieldAddr_quiet ty h hop he
  | indexAddr t x i => exact indexAddr_quiet ty h hop he
  | index t x i => exact index_quiet ty h hop he
  | lookup t x i ok => exact lookup_quiet ty hO h hop he
  | extract x i => exact extract_quiet h hop he
  | build t ps => exact build_quiet ty hO h hop he
  | makeFunc g f q =>
    cases g with
    | func g => exact func_quiet h hop he
    | _ => simp only [evOp, hop] at he; cases he
  | slice t x lo hi mx =>
    cases mx with
    | none => exact slice_quiet ty h hop he
    | some _ => simp only [evOp, hop] at he; cases he
  | call c =>
    cases hb : c.callee with
    | builtin b =>
      refine call_quiet ty h hop hb (fun e => ?_) he
      subst e
      rw [hop] at hq
      obtain ⟨cl, as, ts⟩ := c
      simp only at hb
      subst hb
      simp [quietOp] at hq
    | _ =>
      rw [hop] at hq
      obtain ⟨cl, as, ts⟩ := c
      simp only at hb
      subst hb
      simp [quietOp] at hq
  | _ => rw [hop] at hq; simp [quietOp] at hq
theorem op_loud (ty : TyOK P E) (hO : ∀ g o, E.orc g = some o → Contract P g o) (h : Sim P E st a w Z pv bl) (he : evOp E o st K = some r) : Loud P E st a w Z bl o K r := by
  by_cases hq : quietOp o.op = true
  · exact (op_quiet ty hO h hq he).loud
  · cases hop : o.op with
    | alloc e => exact alloc_loud ty h hop he
    | box e x => exact box_loud h hop he
    | buildSlice t n ps => exact buildSlice_loud ty hO h hop he
    | store t x y => exact store_loud ty hO h hop he
    | convert t0 t x => exact conv_loud ty hO h hop he
    | makeMap t q =>
      cases q with
      | none => exact makeMap_loud ty h hop he
      | some _ => simp only [evOp, hop] at he; cases he
    | makeSlice t n m => exact makeSlice_loud ty h hop he
    | mapUpdate t m k v => simp only [evOp, hop] at he; exact mapUpdate_loud ty hO h (by rw [hop]; rfl) (by simp only [execOp, hop]) he
    | insert t m k v => simp only [evOp, hop] at he; exact mapUpdate_loud ty hO h (by rw [hop]; rfl) (by simp only [execOp, hop]) he
    | call c =>
      cases hb : c.callee with
      | builtin b =>
        by_cases hna : b = .append
        · subst hna
          have he' : evBuiltin E .append c.argTypes.toList (c.args.toList.map st.op) st K = some r := by
            have := he
            simp only [evOp, hop, evCall, hb] at this
            exact this
          rcases builtin_inv he' with ⟨q, _⟩ | ⟨_, t, t2, ts, s, x, h1, h2, h3⟩ | ⟨lt, q, _⟩
          · cases q
          · exact append_loud ty hO h hop hb h1 h2 h3
          · cases lt <;> cases q
        · exact (call_quiet ty h hop hb hna he).loud
      | value f =>
        have he' := he
        simp only [evOp, hop, evCall, hb] at he'
        split at he'
        · rename_i g first caps hf
          exact call_go_loud hO h hop hb hf he'
        · rename_i x y φ hf
          exact fn_loud hO h hop hb hf he'
        · cases he'
      | _ => simp only [evOp, hop, evCall, hb] at he; cases he
    | slice t x lo hi mx =>
      cases mx with
      | none => rw [hop] at hq; exact absurd rfl hq
      | some _ => simp only [evOp, hop] at he; cases he
    | _ => first | (rw [hop] at hq; exact absurd rfl hq) | (simp only [evOp, hop] at he; cases he)
end
end Ev
/- Regions (1): guards; regions in the text's order. -/
namespace Ev
open Go
section
variable {P : Program} {E : Env} {st : St} {a : Act} {w : World} {Z : Zn} {pv : Nat → Value} {bl : Nat → Option Nat} {R : Type} {r : R} {o : Oper}

theorem Sim.putBack (h : Sim P E st a w Z pv bl) {d : Nat} {av : AV} {v : Value} (hv : RAV (cx P E st w Z pv bl) av v) (hd : d < a.tmps.size → a.tmps[d]? = some v) : Sim P E (st.put (some d) av) a w Z pv bl := by
  have h1 := h.put (some d) hv
  have : a.put (some d) v = a := by
    show { a with tmps := a.tmps.setIfInBounds d v } = a
    have : a.tmps.setIfInBounds d v = a.tmps := by
      apply Array.ext_getElem?
      intro i
      rw [Array.getElem?_setIfInBounds]
      split
      · rename_i hi
        subst hi
        by_cases hl : d < a.tmps.size
        · rw [if_pos hl, hd hl]
        · rw [if_neg hl, Array.getElem?_eq_none (by omega)]
      · rfl
    rw [this]
  rwa [this] at h1
theorem Sim.bool (h : Sim P E st a w Z pv bl) {d : Nat} {c : Bool} (hs : st.sl d = .val .b c) : a.tmps[d]? = some (.bool c) := by
  have hv := h.slot d
  rw [hs] at hv
  have hb := RepV.bool_inv hv.val_inv
  have hd : d < a.tmps.size := by
    rcases Nat.lt_or_ge d st.n with q | q
    · have := h.n; omega
    · rw [h.out d q] at hs; cases hs
  rw [Array.getD_eq_getD_getElem?, Array.getElem?_eq_getElem hd] at hb
  rw [Array.getElem?_eq_getElem hd]
  simpa using hb
/-- A state whose slots tell as much, or a bool. -/
def Weak (st1 st : St) : Prop := ∀ x : Operand, st1.op x = st.op x ∨ ∃ c, st1.op x = .val .b c
theorem Weak.refl (st : St) : Weak st st := fun _ => .inl rfl
theorem Weak.put (st : St) (d : Nat) (c : Bool) : Weak (st.put (some d) (.val .b c)) st := fun x => by
  cases x with
  | tmp t =>
    show (st.put (some d) (.val .b c)).sl t = st.sl t ∨ _
    unfold St.put
    simp only []
    split
    · by_cases ht : t = d
      · subst ht
        refine .inr ⟨c, ?_⟩
        show (if Nat.beq t t = true then _ else _) = _
        rw [if_pos (Nat.beq_refl t)]
      · refine .inl ?_
        show (if Nat.beq t d = true then _ else _) = _
        rw [if_neg (fun q => ht (Nat.eq_of_beq_eq_true q))]
    · exact .inl rfl
  | _ => exact .inl rfl
def ioHd : PM → AV → List Nat
  | .io _ _, .sl o => [o]
  | .ib _ _, .ptr o [] => [o]
  | _, _ => []
theorem ioIds_cons (m : PM) (ps : List PM) (a : AV) (as : List AV) : ioIds (m :: ps) (a :: as) = ioHd m a ++ ioIds ps as := by
  cases m with
  | v t => cases a <;> rfl
  | io e t => cases a <;> rfl
  | ib e t =>
    cases a <;> try rfl
    rename_i o p
    cases p <;> rfl
theorem ioIds_weak {st1 st : St} (hw : Weak st1 st) : ∀ (ps : List PM) (pre : List AV) (xs : List Operand) (post : List AV), ∀ x ∈ ioIds ps (pre ++ xs.map st1.op ++ post), x ∈ ioIds ps (pre ++ xs.map st.op ++ post) := by
  intro ps
  induction ps with
  | nil => intro pre xs post x hx; simp [ioIds] at hx
  | cons m ps ih =>
    intro pre xs post x hx
    cases pre with
    | cons a pre =>
      have e1 : ∀ f : Operand → AV, a :: pre ++ xs.map f ++ post = a :: (pre ++ xs.map f ++ post) := fun f => by simp
      rw [e1, ioIds_cons] at hx ⊢
      rcases List.mem_append.1 hx with q | q
      · exact List.mem_append_left _ q
      · exact List.mem_append_right _ (ih pre xs post x q)
    | nil =>
      cases xs with
      | nil => exact hx
      | cons y xs =>
        have e1 : ∀ f : Operand → AV, [] ++ (y :: xs).map f ++ post = f y :: ([] ++ xs.map f ++ post) := fun f => by simp
        rw [e1, ioIds_cons] at hx ⊢
        rcases List.mem_append.1 hx with q | q
        · rcases hw y with e | ⟨c, e⟩
          · rw [e] at q; exact List.mem_append_left _ q
          · rw [e] at q; cases m <;> cases q
        · exact List.mem_append_right _ (ih [] xs post x q)
theorem rdIds_weak {st1 st : St} (hw : Weak st1 st) (op : Op) : ∀ x ∈ rdIds st1 op, x ∈ rdIds st op := by
  have p1 : ∀ y, ∀ x ∈ ptIds (st1.op y), x ∈ ptIds (st.op y) := fun y x hx => by
    rcases hw y with e | ⟨c, e⟩
    · rwa [e] at hx
    · rw [e] at hx; cases hx
  have p2 : ∀ y, ∀ x ∈ mpIds (st1.op y), x ∈ mpIds (st.op y) := fun y x hx => by
    rcases hw y with e | ⟨c, e⟩
    · rwa [e] at hx
    · rw [e] at hx; cases hx
  intro x hx
  cases op with
  | load t y => exact p1 y x hx
  | lookup t y i k => exact p2 y x hx
  | call c =>
    simp only [rdIds] at hx ⊢
    split at hx
    · exact p2 _ x hx
    · cases hx
  | _ => cases hx
theorem wrIds_weak {st1 st : St} (hw : Weak st1 st) (op : Op) : ∀ x ∈ wrIds E st1 op, x ∈ wrIds E st op := by
  have p1 : ∀ y, ∀ x ∈ ptIds (st1.op y), x ∈ ptIds (st.op y) := fun y x hx => by
    rcases hw y with e | ⟨c, e⟩
    · rwa [e] at hx
    · rw [e] at hx; cases hx
  have p2 : ∀ y, ∀ x ∈ mpIds (st1.op y), x ∈ mpIds (st.op y) := fun y x hx => by
    rcases hw y with e | ⟨c, e⟩
    · rwa [e] at hx
    · rw [e] at hx; cases hx
  have p3 : ∀ y, ∀ x ∈ slIds (st1.op y), x ∈ slIds (st.op y) := fun y x hx => by
    rcases hw y with e | ⟨c, e⟩
    · rwa [e] at hx
    · rw [e] at hx; cases hx
  intro x hx
  cases op with
  | store t y v => exact p1 y x hx
  | mapUpdate t y k v => exact p2 y x hx
  | insert t y k v => exact p2 y x hx
  | call c =>
    simp only [wrIds] at hx ⊢
    split at hx
    · split at hx
      · exact p3 _ x hx
      · cases hx
    · rename_i f hf
      split at hx
      · rename_i g first caps hg
        rcases hw f with e | ⟨c', e⟩
        · rw [e] at hg
          simp only [hg]
          unfold goIds at hx ⊢
          split at hx
          · exact ioIds_weak hw _ _ _ _ x hx
          · cases hx
        · rw [e] at hg; cases hg
      · cases hx
    · cases hx
  | _ => cases hx
/-- The guard of an operation. -/
theorem guard_sound (h : Sim P E st a w Z pv bl) {ops : Array Oper} {K : St → Option R} (he : evOper E ops.toList o st K = some r) :
    (Region.wanted o (yielded ops a.tmps) = true ∧ ∃ st1, Sim P E st1 a w Z pv bl ∧ Weak st1 st ∧ evOp E o st1 (fun v st' => K (st'.put o.dst v)) = some r) ∨
    (Region.wanted o (yielded ops a.tmps) = false ∧ ∃ st1, Sim P E st1 a w Z pv bl ∧ K (st1.put o.dst (.tup [])) = some r) := by
  unfold evOper at he
  split at he
  · rename_i hg
    exact .inl ⟨by unfold Region.wanted; rw [hg], st, h, Weak.refl st, he⟩
  · rename_i j want hg
    split at he
    · rename_i d hd
      split at he
      · -- the guard's own operation was not done
        rename_i hu
        right
        refine ⟨?_, st, h, he⟩
        have hv := h.slot d
        rw [hu] at hv
        obtain ⟨us, e1, e2⟩ := hv.tup_inv
        have hy : yielded ops a.tmps j = none := by
          unfold yielded
          rw [← Array.getElem?_toList, hd]
          simp only [Option.bind_some]
          rw [Array.getD_eq_getD_getElem?] at e1
          cases hq : a.tmps[d]? with
          | none => rfl
          | some u =>
            rw [hq] at e1
            have : u = .tuple us := e1
            subst this; rfl
        unfold Region.wanted
        rw [hg]
        simp only [hy]
        rfl
      obtain ⟨c, hc, hk⟩ := dec_some he
      have hb := h.bool hc
      have hy : yielded ops a.tmps j = some c := by
        unfold yielded
        rw [← Array.getElem?_toList, hd]
        simp [hb]
      have h1 := h.putBack (d := d) (av := .val .b c) (v := .bool c) (.val RepV.bool) (fun _ => hb)
      split at hk
      · rename_i hcw
        left
        refine ⟨?_, _, h1, Weak.put _ _ _, hk⟩
        unfold Region.wanted
        rw [hg]
        simp only [hy, hcw]
        simp
      · rename_i hcw
        right
        refine ⟨?_, _, h1, hk⟩
        unfold Region.wanted
        rw [hg]
        simp only [hy]
        simp [hcw]
    · cases he
theorem oper_wpOp (ty : TyOK P E) (hO : ∀ g o, E.orc g = some o → Contract P g o) (h : Sim P E st a w Z pv bl) {ops : Array Oper} {i : Nat} (hi : ops[i]? = some o) {K : St → Option R} (he : evOper E ops.toList o st K = some r)
    {next : Act → World → Prop} {Q : Exit → Act → World → Prop} (hn : ∀ v st' w' Z' pv' bl', Sim P E st' (a.put o.dst v) w' Z' pv' bl' → Tr w Z bl w' Z' bl' → K st' = some r → Wrote bl w Z' bl' w' (wrIds E st o.op) → next (a.put o.dst v) w') :
    wpOp P ops Q i next a w := by
  unfold wpOp
  simp only [hi]
  rcases guard_sound h he with ⟨hw, st1, h1, hwk, hk⟩ | ⟨hw, st1, h1, hk⟩
  · rw [if_pos hw]
    left
    exact op_loud ty hO h1 hk next Q fun v av st' w' Z' pv' bl' q1 q2 q3 q4 q5 => hn v _ w' Z' pv' bl' (q1.put o.dst q3) q2 q4 ⟨fun b hb hne => q5.1 b hb (fun o2 ho2 => hne o2 (wrIds_weak hwk _ o2 ho2)), q5.2.mono (wrIds_weak hwk _)⟩
  · rw [if_neg (by rw [hw]; simp)]
    exact hn undef _ w Z pv bl (h1.put o.dst (.tup .nil)) (Tr.refl _ _ _) hk (.kept (Kept.refl w) (Keep.refl _ _ _))

/-- What holds where a piece of code ends. -/
def Post (P : Program) (E : Env) (w0 : World) (Z0 : Zn) (bl0 : Nat → Option Nat) {R : Type} (K : Exit → St → Option R) (r : R) : Exit → Act → World → Prop :=
  fun e a w => (∀ c, e ≠ .panic c) ∧ ∃ st Z pv bl, Sim P E st a w Z pv bl ∧ Tr w0 Z0 bl0 w Z bl ∧ K e st = some r
theorem ops_sound (ty : TyOK P E) (hO : ∀ g o, E.orc g = some o → Contract P g o) {w0 : World} {Z0 : Zn} {bl0 : Nat → Option Nat} {ops : Array Oper} {K : Exit → St → Option R} : ∀ (l : List Nat) (st : St) (a : Act) (w : World) (Z : Zn) (pv : Nat → Value) (bl : Nat → Option Nat),
    Sim P E st a w Z pv bl → Tr w0 Z0 bl0 w Z bl → evOps E ops.toList l st (K .normal) = some r → wpOps P ops (Post P E w0 Z0 bl0 K r) l a w
  | [], st, a, w, Z, pv, bl, h, ht, he => ⟨fun _ q => (by cases q), st, Z, pv, bl, h, ht, he⟩
  | i :: l, st, a, w, Z, pv, bl, h, ht, he => by
    rw [wpOps_cons]
    simp only [evOps] at he
    split at he
    · rename_i o ho
      have hi : ops[i]? = some o := by rw [← Array.getElem?_toList]; exact ho
      exact oper_wpOp ty hO h hi he fun v st' w' Z' pv' bl' q1 q2 q3 _ => ops_sound ty hO l st' _ w' Z' pv' bl' q1 (ht.trans q2) q3
    · cases he
theorem region_plain_ops (ty : TyOK P E) (hO : ∀ g o, E.orc g = some o → Contract P g o) {w0 : World} {Z0 : Zn} {bl0 : Nat → Option Nat} {ops : Array Oper} {K : Exit → St → Option R} (h : Sim P E st a w Z pv bl) (ht : Tr w0 Z0 bl0 w Z bl)
    (he : evOps E ops.toList (List.range ops.toList.length) st (K .normal) = some r) : wpOps P ops (Post P E w0 Z0 bl0 K r) (List.range ops.size) a w := by
  have : ops.toList.length = ops.size := Array.length_toList
  rw [this] at he
  exact ops_sound ty hO _ st a w Z pv bl h ht he
end
end Ev
/- Regions (2): new memory that may come early. -/
namespace Ev
open Go
section
variable {P : Program} {E : Env} {st : St} {a : Act} {w : World} {Z : Zn} {pv : Nat → Value} {bl : Nat → Option Nat} {R : Type} {K : AV → St → Option R} {r : R} {o : Oper}

def AllocLike (P : Program) (a : Act) (o : Oper) (obj : Obj) (mk : Nat → Value) : Prop := ∀ w1, (execOp a.eval o).run P w1 = .ok (.value (mk w1.heap.size)) (w1.alloc obj)
theorem AllocLike.uniq {obj obj' : Obj} {mk mk' : Nat → Value} (h : AllocLike P a o obj mk) (k : AllocLike P a o obj' mk') : obj = obj' ∧ ∀ n, mk n = mk' n := by
  have hh : ∀ w1 : World, mk w1.heap.size = mk' w1.heap.size ∧ w1.alloc obj = w1.alloc obj' := fun w1 => by
    have := (h w1).symm.trans (k w1)
    injection this with h1 h2
    injection h1 with h1
    exact ⟨h1, h2⟩
  refine ⟨?_, fun n => ?_⟩
  · have := (hh default).2
    have h1 := alloc_new (default : World) obj
    rw [this] at h1
    have h2 := alloc_new (default : World) obj'
    exact Option.some.inj (h1.symm.trans h2)
  · have := (hh { (default : World) with heap := Array.replicate n default }).1
    simpa using this
/-- What comes of an operation whose block stands there already. -/
def Syncs (P : Program) (E : Env) (a : Act) (w : World) (Z : Zn) (bl : Nat → Option Nat) {R : Type} (K : AV → St → Option R) (r : R) (b0 : Nat) (v : Value) : Prop :=
  ∃ av st' Z' pv' bl', Sim P E st' a w Z' pv' bl' ∧ RAV (cx P E st' w Z' pv' bl') av v ∧ K av st' = some r ∧ Zle Z Z' ∧ (∀ b, Z' b → Z b ∨ ∃ o, bl o = some b) ∧ (∀ o b, bl' o = some b → (∃ o', bl o' = some b) ∨ b = b0) ∧ Keep bl Z' bl' []
theorem Sim.at (h : Sim P E st a w Z pv bl) {ob : Ob} {vn : Value} {b0 : Nat} {X : Obj} (hg : w.heap[b0]? = some X) (hz : ¬ Z b0) (hb : ∀ o, bl o ≠ some b0)
    (hob : RepOb (cx P E (st.new ob) w Z (upd pv st.nx vn) (upd bl st.nx (some b0))) st.nx ob) : Sim P E (st.new ob) a w Z (upd pv st.nx vn) (upd bl st.nx (some b0)) :=
  h.new (fun b q => by cases q; exact ⟨hb, hz, (Array.getElem?_eq_some_iff.1 hg).1⟩) hob
theorem upd_bl {bl : Nat → Option Nat} {n b0 : Nat} (o b : Nat) (h : upd bl n (some b0) o = some b) : (∃ o', bl o' = some b) ∨ b = b0 := by
  by_cases he : o = n
  · subst he; rw [upd_same] at h; exact .inr (Option.some.inj h).symm
  · rw [upd_ne _ _ he] at h; exact .inl ⟨o, h⟩
theorem Sim.atArr (h : Sim P E st a w Z pv bl) {e : TypeId} {u : T} {l : List u.in} {q : Nat} (hq : q ≤ 1) (he : E.ty e = some u) {xs : List Value} (hr : Rows (RepC P u Z w) l xs) {cur : Array Value} {fr : Nat × Nat} {cap b0 : Nat}
    (hg : w.heap[b0]? = some (.cells cur e fr)) (hz : ¬ Z b0) (hb : ∀ o, bl o ≠ some b0) (h1 : l.length ≤ cap) (h2 : cap ≤ maxLen) (h3 : cur.size = cap * u.sz) (h4 : cur.toList.take xs.length = xs) (h5 : fr = (0, 0) ∨ (q ≠ 0 ∧ cur.size ≤ fr.1)) :
    Sim P E (st.new (.arr e u l q)) a w Z (upd pv st.nx (.slice (some ⟨b0, 0, none⟩) l.length cap)) (upd bl st.nx (some b0)) ∧
      RAV (cx P E (st.new (.arr e u l q)) w Z (upd pv st.nx (.slice (some ⟨b0, 0, none⟩) l.length cap)) (upd bl st.nx (some b0))) (.sl st.nx) (.slice (some ⟨b0, 0, none⟩) l.length cap) := by
  refine ⟨h.at hg hz hb ⟨he, .inl ⟨hq, ?_, ?_⟩⟩, .ref rfl ⟨Nat.lt_succ_self _, fun _ _ _ _ _ => (upd_same _ _ _).symm⟩⟩
  · show Own P Z w e u l q (upd pv st.nx _ st.nx)
    rw [upd_same]
    exact ⟨xs, hr, .inr ⟨b0, cap, cur, fr, rfl, hg, h1, h2, h3, h4, h5⟩⟩
  · show upd bl st.nx _ st.nx = (upd pv st.nx _ st.nx).ownBlock
    rw [upd_same, upd_same]; rfl
theorem Sim.atBox (h : Sim P E st a w Z pv bl) {e : TypeId} {t : T} {av : AV} {cs : Array Value} {b0 : Nat} (he : E.ty e = some t) (hr : RA (cx P E st w Z pv bl) t av cs.toList) (hg : w.heap[b0]? = some (.cells cs e (0, 0))) (hz : ¬ Z b0) (hb : ∀ o, bl o ≠ some b0) :
    Sim P E (st.new (.box e av)) a w Z (upd pv st.nx undef) (upd bl st.nx (some b0)) ∧ RAV (cx P E (st.new (.box e av)) w Z (upd pv st.nx undef) (upd bl st.nx (some b0))) (.ptr st.nx []) (.pointer (some ⟨b0, 0, none⟩)) := by
  have hx := h.extNew (.box e av) undef (some b0)
  refine ⟨h.at hg hz hb ⟨t, b0, cs, he, upd_same _ _ _, hg, hr.ext hx⟩, .ref rfl ⟨Nat.lt_succ_self _, fun e2 x2 hh => ?_⟩⟩
  have hh' : (st.new (.box e av)).hp st.nx = _ := hh
  have e2' : (st.new (.box e av)).hp st.nx = .box e av := upd_same _ _ _
  rw [e2'] at hh'
  cases hh'
  exact ⟨b0, t, 0, upd_same _ _ _, he, by cases t <;> rfl, rfl⟩
theorem Sim.atMap (h : Sim P E st a w Z pv bl) {m : TypeId} {k v : T} {b0 : Nat} (he : E.ty m = some (.mp k v)) (hg : w.heap[b0]? = some (.map #[] 0)) (hz : ¬ Z b0) (hb : ∀ o, bl o ≠ some b0) :
    Sim P E (st.new (.map m k v [] false)) a w Z (upd pv st.nx (.map (some b0))) (upd bl st.nx (some b0)) ∧ RAV (cx P E (st.new (.map m k v [] false)) w Z (upd pv st.nx (.map (some b0))) (upd bl st.nx (some b0))) (.mp st.nx) (.map (some b0)) :=
  ⟨h.at hg hz hb ⟨he, .inl ⟨rfl, b0, #[], 0, upd_same _ _ _, upd_same _ _ _, hg, trivial⟩⟩, .ref rfl ⟨Nat.lt_succ_self _, fun _ _ _ _ _ _ => (upd_same _ _ _).symm⟩⟩
theorem early_sound (ty : TyOK P E) (hO : ∀ g o, E.orc g = some o → Contract P g o) (h : Sim P E st a w Z pv bl) (hk : earlyOp o.op = true) (he : evOp E o st K = some r) :
    ∃ obj mk, AllocLike P a o obj mk ∧ (∃ av st', K av st' = some r) ∧ ∀ b0, w.heap[b0]? = some obj → ¬ Z b0 → (∀ o, bl o ≠ some b0) → Syncs P E a w Z bl K r b0 (mk b0) := by
  cases hop : o.op with
  | alloc e =>
    simp only [evOp, hop] at he
    split at he
    · rename_i av st1 hz
      obtain ⟨t, pv1, bl1, b0, b1, b2, b3, b4, b5⟩ := zeroAV_sound ty 24 e st st1 av pv bl hz h
      obtain ⟨i, z, i1, i2, _, i4, i5, i6⟩ := ty.info e t b0
      have hbl : ∀ o b, bl1 o = some b → ∃ o', bl o' = some b := fun o b hb => by
        rcases b4.bnew o b hb with q | q
        · exact q
        · have := (b1.own o b hb).2; omega
      refine ⟨.cells z.cells e, fun n => .pointer (some ⟨n, 0, none⟩), fun w1 => ?_, ⟨_, _, he⟩, fun n0 hg hz0 hb0 => ?_⟩
      · simp only [execOp, hop, Instr.alloc]
        simp [zeroValue, typeInfo, i1, i4, newVar, newRow]
      · obtain ⟨q1, q2⟩ := b1.atBox b0 (by rw [i6]; exact b2) hg hz0 (fun o ho => by obtain ⟨o', h'⟩ := hbl o n0 ho; exact hb0 o' h')
        exact ⟨_, _, _, _, _, q1, q2, he, fun _ h => h, fun _ h => .inl h, fun o b hb => by
          rcases upd_bl o b hb with ⟨o', q⟩ | q
          · exact .inl (hbl o' b q)
          · exact .inr q, b5.trans (Keep.new b1 _ _ _) (fun _ h => h)⟩
    · cases he
  | makeMap t q =>
    cases q with
    | some _ => simp only [evOp, hop] at he; cases he
    | none =>
      simp only [evOp, hop] at he
      split at he
      · rename_i k v ht
        refine ⟨.map #[] 0, fun n => .map (some n), fun w1 => ?_, ⟨_, _, he⟩, fun n0 hg hz0 hb0 => ?_⟩
        · simp only [execOp, hop, Instr.makeMap]
          simp
        · obtain ⟨q1, q2⟩ := h.atMap ht hg hz0 hb0
          exact ⟨_, _, _, _, _, q1, q2, he, fun _ h => h, fun _ h => .inl h, upd_bl, Keep.new h _ _ _⟩
      · cases he
  | makeSlice t n m =>
    simp only [evOp, hop] at he
    have hn := h.op n
    have hm := h.op m
    unfold evMakeSlice at he
    split at he
    · rename_i e k1 x k2 y hds hne hme
      rw [hne] at hn
      rw [hme] at hm
      split at he
      · rename_i u hu
        split at he
        · rename_i hxy
          split at he
          · rename_i h0
            split at he
            · rename_i h1
              subst hxy
              obtain ⟨hv1, _⟩ := RepV.int_inv hn.val_inv
              obtain ⟨hv2, _⟩ := RepV.int_inv hm.val_inv
              obtain ⟨i, z, i1, i2, i3, i4, i5, i6⟩ := ty.info e u hu
              have h0' : (0 : Int) ≤ (x : Int) := h0
              have h1' : (x : Int) ≤ 17179869184 := h1
              have hb : (i.bytes : Int) * (x : Int) ≤ 281474976710656 := by
                have : (i.bytes : Int) * (x : Int) ≤ 4096 * 17179869184 := Int.mul_le_mul (by omega) h1' h0' (by omega)
                omega
              have h2' : Int.toNat x ≤ 17179869184 := (Int.toNat_le (n := 17179869184)).2 h1'
              have hz := zero_rep (P := P) u (ty.plain e u hu) Z w
              have hzl := RepC.length _ _ _ hz
              have hmade := made_zero i6 x.toNat
              rw [hzl] at hmade
              have hrows := Rows.rep hz x.toNat
              rw [← hmade] at hrows
              have hll : (List.replicate x.toNat u.zero).length = x.toNat := List.length_replicate
              refine ⟨.cells (madeCells z.cells (x.toNat * u.sz)) e, fun n => .slice (some ⟨n, 0, none⟩) x.toNat x.toNat, fun w1 => ?_, ⟨_, _, he⟩, fun n0 hg hz0 hb0 => ?_⟩
              · have hrun := run_make (P := P) w1 t e i z (ty.sl t e hds) i1 i4 k1 k2 x x h0 (Int.le_refl _) hb (Int.le_trans h1' (by omega))
                rw [i2] at hrun
                simp only [execOp, hop, hv1, hv2]
                rw [Sem.run_bind, hrun]; rfl
              · obtain ⟨q1, q2⟩ := h.atArr (q := 0) (by omega) hu hrows (fr := (0, 0)) (cap := x.toNat) hg hz0 hb0 (Nat.le_of_eq hll) (maxLen_le h2') (size_madeCells _ _) (List.take_of_length_le (Nat.le_refl _)) (.inl rfl)
                rw [hll] at q1 q2
                exact ⟨_, _, _, _, _, q1, q2, he, fun _ h => h, fun _ h => .inl h, upd_bl, Keep.new h _ _ _⟩
            · cases he
          · cases he
        · cases he
      · cases he
    · cases he
  | buildSlice t n ps =>
    simp only [evOp, hop] at he
    have hps := h.parts ps.toList
    unfold evBuildSlice at he
    split at he
    · rename_i e hds
      split at he
      · rename_i u hu
        split at he
        · rename_i hn
          simp only [Bool.and_eq_true] at hn
          have hn1 := Nat.eq_of_beq_eq_true hn.1
          have hn2 : n * u.sz ≤ 16777216 := Nat.le_of_ble_eq_true hn.2.1
          have hn3 : n ≤ 16777216 := Nat.le_of_ble_eq_true hn.2.2
          split at he
          · rename_i l hl
            obtain ⟨i, z, i1, i2, i3, i4, i5, i6⟩ := ty.info e u hu
            obtain ⟨zc, hrun⟩ := run_buildSlice (P := P) (parts := ps.map fun p => (p.1, a.eval p.2)) (ty.sl t e hds) i1 i4 (n := n) (by rw [i2]; exact hn2)
            rw [i2] at hrun
            have hsz0 : (madeCells zc (n * u.sz)).size = (0 + (ps.toList.map fun p => (p.1, st.op p.2)).length) * u.sz := by
              rw [size_madeCells, Nat.zero_add, ← hn1]
            obtain ⟨cells, xs, e1, e2, e3, e4, e5⟩ := partsL_sound hO h _ _ 0 l (madeCells zc (n * u.sz)) _ hps hl (fun x hx => hx) hsz0
            have hcl : cells.toList = xs := by rw [e4, Nat.zero_mul, List.take_zero, List.nil_append]
            have hln : l.length = n := by rw [e5, ← hn1]
            have hsize : cells.size = n * u.sz := by rw [e2, size_madeCells]
            refine ⟨.cells cells e, fun k => .slice (some ⟨k, 0, none⟩) n n, fun w1 => ?_, ⟨_, _, he⟩, fun n0 hg hz0 hb0 => ?_⟩
            · simp only [execOp, hop]
              rw [Sem.run_bind, hrun w1 cells (by simpa using e1)]; rfl
            · have hs1 := h.ro (tchs st ((ps.toList.map fun p => (p.1, st.op p.2)).map (·.2)))
              have hbr : ∀ o b, blr bl (tchs st ((ps.toList.map fun p => (p.1, st.op p.2)).map (·.2))) o = some b → ∃ o', bl o' = some b := fun o b hb => by
                unfold blr at hb
                split at hb
                · cases hb
                · exact ⟨o, hb⟩
              obtain ⟨q1, q2⟩ := hs1.atArr (q := 0) (by omega) hu e3 (fr := (0, 0)) (cap := n) hg (fun q => by
                  rcases q with q | ⟨o, _, q⟩
                  · exact hz0 q
                  · exact hb0 o q) (fun o ho => by obtain ⟨o', q⟩ := hbr o n0 ho; exact hb0 o' q) (by omega) (maxLen_le (by omega)) hsize (by rw [hcl]; exact List.take_of_length_le (Nat.le_refl _)) (.inl rfl)
              rw [hln] at q1 q2
              exact ⟨_, _, _, _, _, q1, q2, by rw [ro_nx]; exact he, Zt.le _ _ _, fun b hb => hb.imp id (fun ⟨o, _, q⟩ => ⟨o, q⟩), fun o b hb => by
                rcases upd_bl o b hb with ⟨o', q⟩ | q
                · exact .inl (hbr o' b q)
                · exact .inr q, (Keep.ro _ _ _ _).trans (Keep.new hs1 _ _ _) (fun _ h => h)⟩
          · cases he
        · cases he
      · cases he
    · cases he
  | _ => rw [hop] at hk; cases hk
end
end Ev
/- Regions (3): regions that draw their order. -/
namespace Ev
open Go
section
variable {P : Program} {E : Env} {st : St} {a : Act} {w : World} {Z : Zn} {pv : Nat → Value} {bl : Nat → Option Nat} {R : Type} {r : R} {o : Oper}

/-- Whatever order is picked from here on; and what each operation is to leave alone it does. -/
def wpK (P : Program) (ops : Array Oper) (Q : Exit → Act → World → Prop) (Pr : Nat → Nat → Prop) : Nat → Array Bool → Act → World → Prop
  | 0, listed, a, w => Region.ready .any ops listed = [] ∧ Q .normal a w
  | fuel + 1, listed, a, w =>
    (Region.ready .any ops listed = [] → Q .normal a w) ∧
    ∀ i ∈ Region.ready .any ops listed, wpOp P ops Q i (fun a' w' => (∀ b, Pr i b → w'.heap[b]? = w.heap[b]?) ∧ wpK P ops Q Pr fuel (listed.setIfInBounds i true) a' w') a w
theorem wpAny_of_K {ops : Array Oper} {Q : Exit → Act → World → Prop} {Pr : Nat → Nat → Prop} : ∀ (fuel : Nat) (listed : Array Bool) (a : Act) (w : World), wpK P ops Q Pr fuel listed a w → wpAny P .any ops Q fuel listed a w
  | 0, _, _, _, h => h
  | fuel + 1, _, _, _, h => ⟨h.1, fun i hi => wpOp_mono (fun a' w' h' => wpAny_of_K fuel _ a' w' h'.2) (h.2 i hi)⟩
/-- What an operation yields: the worlds in which. -/
def SW (S : Nat → Prop) (w : World) : World → Prop := fun w' => ∀ b, S b → w'.heap[b]? = w.heap[b]?
theorem yieldsIf_weaker {ops : Array Oper} {S S' : World → Prop} {v : Value} (h : YieldsIf P ops S o v a) (hs : ∀ w, S' w → S w) : YieldsIf P ops S' o v a :=
  h.imp (fun ⟨h1, h2⟩ => ⟨h1, fun w hw => h2 w (hs w hw)⟩) id
theorem wpK_first {ops : Array Oper} {Q : Exit → Act → World → Prop} {i : Nat} {oi : Oper} {v : Value} (hi : ops[i]? = some oi) (hsel : ∀ (j : Nat) (o : Oper) cs b, ops[j]? = some o → o.op ≠ .select cs b)
    (hQ : ∀ c a w, ¬ Q (.panic c) a w) {D : List Nat} {S : Nat → Prop} {Pr Pr' : Nat → Nat → Prop} (hjust : ∀ j ∈ D, ∃ oj, ops[j]? = some oj ∧ ∃ e ∈ oj.after, Region.binds .any e = true ∧ (e.on = i ∨ e.on ∈ D)) (hPr : ∀ j b, Pr j b → Pr' j b) : ∀ (fuel : Nat) (listed : Array Bool) (a : Act) (w : World),
      (∀ j ∈ D, listed.getD j true = false) →
      (∀ j oj, ops[j]? = some oj → j ≠ i → j ∉ D → listed.getD j true = false → oi.apart ops oj = true ∧ ∀ b, S b → Pr' j b) →
      i ∈ Region.ready .any ops listed → YieldsIf P ops (SW S w) oi v a →
      wpK P ops Q Pr' fuel (listed.setIfInBounds i true) (a.put oi.dst v) w → wpK P ops Q Pr (fuel + 1) listed a w := by
  have weaker : ∀ (fuel : Nat) (listed : Array Bool) (a : Act) (w : World), wpK P ops Q Pr' fuel listed a w → wpK P ops Q Pr fuel listed a w := by
    intro fuel
    induction fuel with
    | zero => intro listed a w h; exact h
    | succ fuel ih => intro listed a w h; exact ⟨h.1, fun j hj => wpOp_mono (fun a' w' h' => ⟨fun b hb => h'.1 b (hPr j b hb), ih _ _ _ h'.2⟩) (h.2 j hj)⟩
  intro fuel
  induction fuel with
  | zero =>
    intro listed a w _ _ hr hy H
    refine ⟨fun h => (by rw [h] at hr; cases hr), fun j hj => ?_⟩
    by_cases hji : j = i
    · subst hji; exact hy.wpOp hi (fun _ _ => rfl) ⟨fun _ _ => rfl, weaker _ _ _ _ H⟩
    · have := ready_mono hj hji
      rw [H.1] at this
      cases this
  | succ fuel ih =>
    intro listed a w hDl hfree hr hy H
    refine ⟨fun h => (by rw [h] at hr; cases hr), fun j hj => ?_⟩
    by_cases hji : j = i
    · subst hji; exact hy.wpOp hi (fun _ _ => rfl) ⟨fun _ _ => rfl, weaker _ _ _ _ H⟩
    · have h1 := H.2 j (ready_mono hj hji)
      obtain ⟨hjun, oj, hoj, hall⟩ := mem_ready.1 hj
      have unl : ∀ x, listed.getD x true = false → listed.getD x false = true → False := fun x h0 h1 => by
        rcases Nat.lt_or_ge x listed.size with h' | h'
        · simp [h'] at h0 h1; rw [h0] at h1; cases h1
        · simp [Array.getElem?_eq_none h'] at h1
      have hjD : j ∉ D := fun hm => by
        obtain ⟨oj', hoj', e, he, hb, hon⟩ := hjust j hm
        obtain rfl : oj' = oj := Option.some.inj (hoj'.symm.trans hoj)
        have h1 := hall e he hb
        rcases hon with q | q
        · rw [q] at h1; exact unl _ (mem_ready.1 hr).1 h1
        · exact unl _ (hDl _ q) h1
      have hap := hfree j oj hoj hji hjD hjun
      have h2 := wpOp_putIf hoj hap.1 (fun cs b => hsel i oi cs b hi) (fun cs b => hsel j oj cs b hoj) (fun c a w q => absurd q (hQ c _ w)) hy h1
      have hDl' : ∀ k ∈ D, (listed.setIfInBounds j true).getD k true = false := fun k hk => by
        have : j ≠ k := fun e => hjD (e ▸ hk)
        rw [getD_set_ne true this]; exact hDl k hk
      have hfree' : ∀ k ok, ops[k]? = some ok → k ≠ i → k ∉ D → (listed.setIfInBounds j true).getD k true = false → oi.apart ops ok = true ∧ ∀ b, S b → Pr' k b := fun k ok hk hki hkD hun => by
        refine hfree k ok hk hki hkD ?_
        by_cases hjk : j = k
        · subst hjk; exact hjun
        · rw [getD_set_ne true hjk] at hun; exact hun
      refine wpOp_mono (fun a' w' h3 => ⟨fun b hb => h3.2.1 b (hPr j b hb), ih (listed.setIfInBounds j true) a' w' hDl' hfree' (ready_mono hr (Ne.symm hji)) (yieldsIf_weaker h3.1 fun w2 hw2 b hb => (hw2 b hb).trans (h3.2.1 b (hap.2 b hb))) ?_⟩) h2
      rw [Array.setIfInBounds_comm _ _ hji]
      exact h3.2.2

/-- A quiet operation, its guard looked at. -/
theorem oper_quiet (ty : TyOK P E) (hO : ∀ g o, E.orc g = some o → Contract P g o) (h : Sim P E st a w Z pv bl) (hq : quietOp o.op = true) {ops : Array Oper} {K : St → Option R} (he : evOper E ops.toList o st K = some r) :
    ∃ v st' Z' pv' bl', YieldsIf P ops (SW (fun b => Z b ∨ ∃ o2 ∈ rdIds st o.op, bl o2 = some b) w) o v a ∧ Sim P E st' (a.put o.dst v) w Z' pv' bl' ∧ Tr w Z bl w Z' bl' ∧ K st' = some r ∧ Keep bl Z' bl' [] := by
  rcases guard_sound h he with ⟨hw, st1, h1, hwk, hk⟩ | ⟨hw, st1, h1, hk⟩
  · obtain ⟨v, av, st', Z', pv', bl', q1, q2, q3, q4, q5, q6⟩ := op_quiet ty hO h1 hq hk
    exact ⟨v, _, Z', pv', bl', .inl ⟨hw, fun w' hw' => q1 w' (KR.mono (ids := rdIds st o.op) (fun b hb => hw' b hb) (rdIds_weak hwk _))⟩, q2.put o.dst q4, q3, q5, q6⟩
  · exact ⟨undef, _, Z, pv, bl, .inr ⟨hw, rfl⟩, h1.put o.dst (.tup .nil), Tr.refl _ _ _, hk, Keep.refl _ _ _⟩

/-! ### Early memory -/
theorem kill_sound (ops : Array Oper) : ∀ (B : List Nat) (st : St), Sim P E st a w Z pv bl → Sim P E (killB ops B st) a w Z pv bl ∧ (∀ d, st.sl d = .dead → (killB ops B st).sl d = .dead) ∧ ∀ b ∈ B, ∀ ob, ops[b]? = some ob → ∀ d, ob.dst = some d → (killB ops B st).sl d = .dead := by
  have put_dead : ∀ {st : St} {d : Nat}, Sim P E st a w Z pv bl → Sim P E (st.put (some d) .dead) a w Z pv bl ∧ (∀ d', st.sl d' = .dead → (st.put (some d) .dead).sl d' = .dead) ∧ (st.put (some d) .dead).sl d = .dead := by
    intro st d h
    refine ⟨h.putBack (v := a.tmps.getD d undef) .dead (fun hd => by rw [Array.getD_eq_getD_getElem?, Array.getElem?_eq_getElem hd]; rfl), fun d' hd' => ?_, ?_⟩
    · unfold St.put
      simp only []
      split
      · show (if Nat.beq d' d = true then AV.dead else st.sl d') = .dead
        split
        · rfl
        · exact hd'
      · exact hd'
    · unfold St.put
      simp only []
      split
      · show (if Nat.beq d d = true then AV.dead else st.sl d) = .dead
        rw [if_pos (Nat.beq_refl d)]
      · rename_i hn
        exact h.out d (by simpa [Nat.blt_eq] using hn)
  intro B
  induction B with
  | nil => intro st h; exact ⟨h, fun _ q => q, fun b hb => by cases hb⟩
  | cons b B ih =>
    intro st h
    cases hob : ops[b]? with
    | none =>
      have e : killB ops (b :: B) st = killB ops B st := by show killB ops B _ = _; rw [hob]
      rw [e]
      obtain ⟨h1, h2, h3⟩ := ih st h
      refine ⟨h1, h2, fun b' hb' ob' hob' d hd => ?_⟩
      rcases List.mem_cons.1 hb' with rfl | hb'
      · rw [hob] at hob'; cases hob'
      · exact h3 b' hb' ob' hob' d hd
    | some ob =>
      have e : killB ops (b :: B) st = killB ops B (st.put ob.dst .dead) := by show killB ops B _ = _; rw [hob]
      rw [e]
      cases hd : ob.dst with
      | none =>
        obtain ⟨h1, h2, h3⟩ := ih st h
        refine ⟨h1, h2, fun b' hb' ob' hob' d hd' => ?_⟩
        rcases List.mem_cons.1 hb' with rfl | hb'
        · rw [hob] at hob'; cases hob'; rw [hd] at hd'; cases hd'
        · exact h3 b' hb' ob' hob' d hd'
      | some d0 =>
        obtain ⟨p1, p2, p3⟩ := put_dead (d := d0) h
        obtain ⟨h1, h2, h3⟩ := ih _ p1
        refine ⟨h1, fun d q => h2 d (p2 d q), fun b' hb' ob' hob' d hd' => ?_⟩
        rcases List.mem_cons.1 hb' with rfl | hb'
        · rw [hob] at hob'; cases hob'; rw [hd] at hd'; cases hd'; exact h2 _ p3
        · exact h3 b' hb' ob' hob' d hd'
theorem evB_sound (ty : TyOK P E) (hO : ∀ g o, E.orc g = some o → Contract P g o) (h : Sim P E st a w Z pv bl) {ops : Array Oper} {X : Option R} : ∀ (B : List Nat), (∀ b ∈ B, ∃ ob, ops[b]? = some ob ∧ earlyOp ob.op = true) → evB E ops B st X = some r →
    X = some r ∧ ∀ b ∈ B, ∃ ob Y, ops[b]? = some ob ∧ evOp E ob st (fun _ _ => Y) = some r := by
  intro B
  induction B with
  | nil => intro _ he; exact ⟨he, fun b hb => by cases hb⟩
  | cons b B ih =>
    intro hB he
    obtain ⟨ob, hob, hek⟩ := hB b (List.mem_cons_self ..)
    simp only [evB, hob] at he
    obtain ⟨_, _, _, ⟨_, _, hrest⟩, _⟩ := early_sound ty hO h hek he
    obtain ⟨h1, h2⟩ := ih (fun b' hb' => hB b' (List.mem_cons_of_mem _ hb')) hrest
    refine ⟨h1, fun b' hb' => ?_⟩
    rcases List.mem_cons.1 hb' with rfl | hb'
    · exact ⟨ob, _, hob, he⟩
    · exact h2 b' hb'
end
end Ev
/- Regions (4): regions that draw their order: whatever order is drawn. -/
namespace Ev
open Go
section
variable {P : Program} {E : Env} {st : St} {a : Act} {w : World} {Z : Zn} {pv : Nat → Value} {bl : Nat → Option Nat} {R : Type} {r : R} {o : Oper}

theorem depsIn_iff {ls : List Nat} {o : Oper} : depsIn ls o = true ↔ ∀ e ∈ o.after, Region.binds .any e = true → e.on ∈ ls := by
  unfold depsIn
  rw [List.all_eq_true]
  constructor
  · intro h e he hb
    have := h e (by simpa using he)
    unfold bindsB at this
    rw [hb] at this
    simpa using this
  · intro h e he
    unfold bindsB
    cases hb : Region.binds .any e with
    | false => rfl
    | true => simpa using h e (by simpa using he) hb
theorem waits_false {o : Oper} {i : Nat} : waitsB o i = false ↔ ∀ e ∈ o.after, Region.binds .any e = true → e.on ≠ i := by
  unfold waitsB
  rw [List.any_eq_false]
  constructor
  · intro h e he hb heq
    have := h e (by simpa using he)
    unfold bindsB at this
    rw [hb, heq] at this
    simp at this
  · intro h e he
    unfold bindsB
    cases hb : Region.binds .any e with
    | false => simp
    | true => simpa using h e (by simpa using he) hb
theorem freeB_spec {ops : Array Oper} {ls : List Nat} {i : Nat} {oi : Oper} (h : freeB ops ls i oi = true) {j : Nat} {oj : Oper} (hj : ops[j]? = some oj) (hne : j ≠ i) (hls : j ∉ ls) (hw : waitsB oj i = false) : oi.apart ops oj = true := by
  unfold freeB at h
  rw [List.all_eq_true] at h
  have hlt : j < ops.size := (Array.getElem?_eq_some_iff.1 hj).1
  have h1 := h j (List.mem_range.2 hlt)
  have e1 : Nat.beq j i = false := by
    cases q : Nat.beq j i with
    | false => rfl
    | true => exact absurd (Nat.eq_of_beq_eq_true q) hne
  have e2 : ls.contains j = false := by
    cases q : ls.contains j with
    | false => rfl
    | true => exact absurd (List.contains_iff_mem.1 q) hls
  rw [e1, e2, hj] at h1
  simpa only [hw, Bool.false_or] using h1
theorem contains_no {x : Nat} {l : List Nat} (h : x ∉ l) : l.contains x = false := by
  cases q : l.contains x with
  | false => rfl
  | true => exact absurd (List.contains_iff_mem.1 q) h
theorem beq_no {x y : Nat} (h : x ≠ y) : Nat.beq x y = false := by
  cases q : Nat.beq x y with
  | false => rfl
  | true => exact absurd (Nat.eq_of_beq_eq_true q) h
theorem freeD_spec {ops : Array Oper} {ls D : List Nat} {i : Nat} {oi : Oper} (h : freeD ops ls i oi D = true) {j : Nat} {oj : Oper} (hj : ops[j]? = some oj) (hne : j ≠ i) (hls : j ∉ ls) (hD : j ∉ D) : oi.apart ops oj = true := by
  unfold freeD at h
  rw [List.all_eq_true] at h
  have h1 := h j (List.mem_range.2 (Array.getElem?_eq_some_iff.1 hj).1)
  rw [beq_no hne, contains_no hls, contains_no hD, hj] at h1
  simpa only [Bool.false_or] using h1
theorem justB_spec {ops : Array Oper} {i : Nat} {D : List Nat} (h : justB ops i D = true) : ∀ j ∈ D, ∃ oj, ops[j]? = some oj ∧ ∃ e ∈ oj.after, Region.binds .any e = true ∧ (e.on = i ∨ e.on ∈ D) := fun j hj => by
  unfold justB at h
  rw [List.all_eq_true] at h
  have h1 := h j hj
  split at h1
  · rename_i oj hoj
    rw [List.any_eq_true] at h1
    obtain ⟨e, he, hb⟩ := h1
    simp only [Bool.and_eq_true, Bool.or_eq_true] at hb
    exact ⟨oj, hoj, e, by simpa using he, hb.1, hb.2.imp Nat.eq_of_beq_eq_true List.contains_iff_mem.1⟩
  · cases h1
theorem apartB_nil : ∀ (l : List Nat), apartB l [] = true
  | [] => rfl
  | _ :: l => by simp [apartB, apartB_nil l]
theorem early_wr {st : St} {op : Op} (h : earlyOp op = true) : wrIds E st op = [] := by
  cases op <;> first | rfl | cases h
theorem ioIds_v : ∀ (ps : List PM) (as : List AV), (ps.all fun m => match m with | .v _ => true | _ => false) = true → ioIds ps as = []
  | [], as, _ => by cases as <;> rfl
  | m :: ps, [], _ => by cases m <;> rfl
  | m :: ps, a :: as, h => by
    simp only [List.all_cons, Bool.and_eq_true] at h
    rw [ioIds_cons, ioIds_v ps as h.2]
    cases m <;> first | rfl | cases h.1
theorem mild_wr {st : St} {op : Op} (h : mildOp E op = true) : wrIds E st op = [] := by
  cases op with
  | call c =>
    obtain ⟨cal, as, ts⟩ := c
    cases cal with
    | builtin b => cases b <;> first | rfl | (simp [mildOp, quietOp, pureCall] at h; done)
    | value f =>
      cases f with
      | func g =>
        simp only [mildOp, quietOp, Bool.false_or, pureCall] at h
        show goIds E g _ = []
        unfold goIds
        split at h
        · exact ioIds_v _ _ h
        · cases h
      | _ => simp [mildOp, quietOp, pureCall] at h
    | _ => simp [mildOp, quietOp, pureCall] at h
  | _ => first | rfl | cases h
/-- What is to be left alone: memory that is read alone, or objects that an operation has read which it need not wait for. -/
def PrOK (E : Env) (ops : Array Oper) (Pr : Nat → Nat → Prop) (ls : List Nat) (pr : Prs) (w : World) (Z : Zn) (bl : Nat → Option Nat) : Prop :=
  ∀ k ok, ops[k]? = some ok → k ∉ ls → ∀ b, Pr k b → b < w.heap.size ∧ (Z b ∨ mildOp E ok.op = true ∨ ∃ q ∈ pr, k ∉ downB ops q.1 ∧ ∃ o ∈ q.2, bl o = some b)
theorem PrOK.mono {ops : Array Oper} {Pr : Nat → Nat → Prop} {ls ls' : List Nat} {pr : Prs} {Z Z' : Zn} {bl bl' : Nat → Option Nat} {w w' : World} (h : PrOK E ops Pr ls pr w Z bl) (hl : ∀ x ∈ ls, x ∈ ls') (hs : w.heap.size ≤ w'.heap.size) (hz : Zle Z Z') (hk : Keep bl Z' bl' []) : PrOK E ops Pr ls' pr w' Z' bl' := fun k ok hk1 hk2 b hb => by
  obtain ⟨h1, h2⟩ := h k ok hk1 (fun q => hk2 (hl k q)) b hb
  refine ⟨Nat.lt_of_lt_of_le h1 hs, ?_⟩
  rcases h2 with q | q | ⟨q, hq, hd, o, ho, hbl⟩
  · exact .inl (hz b q)
  · exact .inr (.inl q)
  · rcases hk o b hbl (fun q => by cases q) with q' | q'
    · exact .inr (.inr ⟨q, hq, hd, o, ho, q'⟩)
    · exact .inl q'
theorem okW_spec {ops : Array Oper} {ls : List Nat} {i : Nat} {wr : List Nat} {pr : Prs} (h : okW E ops ls i wr pr = true) {q : Nat × List Nat} (hq : q ∈ pr) :
    (∀ x ∈ q.2, x ∉ wr) ∨ (i ∈ downB ops q.1 ∧ ∀ k ok, ops[k]? = some ok → k ∉ ls → k ≠ i → k ∉ downB ops q.1 → mildOp E ok.op = true) := by
  unfold okW at h
  rw [List.all_eq_true] at h
  have h1 := h q hq
  simp only [Bool.or_eq_true, Bool.and_eq_true] at h1
  rcases h1 with h1 | ⟨h1, h2⟩
  · exact .inl (apartB_apart h1)
  · refine .inr ⟨List.contains_iff_mem.1 h1, fun k ok hk hl hne hd => ?_⟩
    rw [List.all_eq_true] at h2
    have h3 := h2 k (List.mem_range.2 (Array.getElem?_eq_some_iff.1 hk).1)
    rw [contains_no hl, beq_no hne, contains_no hd, hk] at h3
    simpa only [Bool.false_or] using h3
/-- What an operation that acts leaves alone. -/
theorem PrOK.wrote (h : Sim P E st a w Z pv bl) {ops : Array Oper} {Pr : Nat → Nat → Prop} {ls : List Nat} {pr : Prs} {wr : List Nat} (hp : PrOK E ops Pr ls pr w Z bl) {i : Nat} {oi : Oper} (hi : ops[i]? = some oi) (hil : i ∉ ls) (hok : okW E ops ls i wr pr = true) (hmw : mildOp E oi.op = true → wr = [])
    {w' : World} {Z' : Zn} {bl' : Nat → Option Nat} (ht : Tr w Z bl w' Z' bl') (hw : Wrote bl w Z' bl' w' wr) :
    (∀ b, Pr i b → w'.heap[b]? = w.heap[b]?) ∧ PrOK E ops Pr (i :: ls) (dropW wr pr) w' Z' bl' := by
  refine ⟨fun b hb => ?_, fun k ok hk hkl b hb => ?_⟩
  · obtain ⟨h1, h2⟩ := hp i oi hi hil b hb
    refine hw.1 b h1 fun o ho hbl => ?_
    rcases h2 with q | q | ⟨q, hq, hd, o2, ho2, hbl2⟩
    · exact (h.own o b hbl).1 q
    · rw [hmw q] at ho; cases ho
    · rcases okW_spec hok hq with g | ⟨g, _⟩
      · exact g o2 ho2 (h.inj o o2 b hbl hbl2 ▸ ho)
      · exact hd g
  · have hki : k ≠ i := fun e => hkl (e ▸ List.mem_cons_self ..)
    have hkl' : k ∉ ls := fun q => hkl (List.mem_cons_of_mem _ q)
    obtain ⟨h1, h2⟩ := hp k ok hk hkl' b hb
    refine ⟨Nat.lt_of_lt_of_le h1 ht.size, ?_⟩
    rcases h2 with q | q | ⟨q, hq, hd, o2, ho2, hbl2⟩
    · exact .inl (ht.zle b q)
    · exact .inr (.inl q)
    · by_cases hap : apartB q.2 wr = true
      · rcases hw.2 o2 b hbl2 (apartB_apart hap o2 ho2) with g | g
        · exact .inr (.inr ⟨q, List.mem_filter.2 ⟨hq, hap⟩, hd, o2, ho2, g⟩)
        · exact .inl g
      · unfold okW at hok
        rw [List.all_eq_true] at hok
        have h3 := hok q hq
        simp only [Bool.or_eq_true, Bool.and_eq_true, hap, false_or, Bool.false_eq_true] at h3
        have h4 := h3.2
        rw [List.all_eq_true] at h4
        have h5 := h4 k (List.mem_range.2 (Array.getElem?_eq_some_iff.1 hk).1)
        rw [contains_no hkl', beq_no hki, contains_no hd, hk] at h5
        exact .inr (.inl (by simpa only [Bool.false_or] using h5))

structure Pend (P : Program) (ops : Array Oper) (a : Act) (w : World) (Z : Zn) (bl : Nat → Option Nat) (n0 : Nat) (ls : List Nat) (p : Nat × Nat) : Prop where
  ex : ∃ ob obj mk, ops[p.1]? = some ob ∧ earlyOp ob.op = true ∧ ob.guard = none ∧ depsIn ls ob = true ∧ AllocLike P a ob obj mk ∧ w.heap[p.2]? = some obj ∧ (∀ d, ob.dst = some d → d < a.tmps.size → a.tmps[d]? = some (mk p.2)) ∧
    (∀ j oj, ops[j]? = some oj → j ≠ p.1 → j ∉ ls → waitsB oj p.1 = false → ob.apart ops oj = true)
  out : p.1 ∉ ls
  z : ¬ Z p.2
  b : ∀ o, bl o ≠ some p.2
  n : n0 ≤ p.2
theorem Pend.lt {ops : Array Oper} {n0 : Nat} {ls : List Nat} {p : Nat × Nat} (h : Pend P ops a w Z bl n0 ls p) : p.2 < w.heap.size := by
  obtain ⟨ob, obj, mk, _, _, _, _, _, h1, _⟩ := h.ex
  exact (Array.getElem?_eq_some_iff.1 h1).1
theorem depsIn_mono {ls ls' : List Nat} {o : Oper} (h : depsIn ls o = true) (hl : ∀ x ∈ ls, x ∈ ls') : depsIn ls' o = true :=
  depsIn_iff.2 fun e he hb => hl _ (depsIn_iff.1 h e he hb)
theorem put_tmps_ne {dst : Option Nat} {v : Value} {d : Nat} (h : dst ≠ some d) : (a.put dst v).tmps[d]? = a.tmps[d]? ∧ (a.put dst v).tmps.size = a.tmps.size := by
  cases dst with
  | none => exact ⟨rfl, rfl⟩
  | some d' =>
    have hne : d' ≠ d := fun e => h (by rw [e])
    exact ⟨Array.getElem?_setIfInBounds_ne hne, Array.size_setIfInBounds⟩
theorem Pend.step {ops : Array Oper} (hsel : ∀ (j : Nat) (o : Oper) cs b, ops[j]? = some o → o.op ≠ .select cs b) {n0 : Nat} {ls ls' : List Nat} {p : Nat × Nat} (h : Pend P ops a w Z bl n0 ls p) {j : Nat} {oj : Oper} (hj : ops[j]? = some oj) (hne : j ≠ p.1) (hjl : j ∉ ls) (hwait : waitsB oj p.1 = false)
    (hl : ∀ x ∈ ls, x ∈ ls') (hout : p.1 ∉ ls') {w' : World} {Z' : Zn} {bl' : Nat → Option Nat} (ht : Tr w Z bl w' Z' bl') (v : Value) : Pend P ops (a.put oj.dst v) w' Z' bl' n0 ls' p := by
  have hlt := h.lt
  obtain ⟨ob, obj, mk, g1, g2, g3, g4, g5, g6, g7, g8⟩ := h.ex
  obtain ⟨s1, s2, s3⟩ := Oper.apart_spec (g8 j oj hj hne hjl hwait)
  refine ⟨⟨ob, obj, mk, g1, g2, g3, depsIn_mono g4 hl, fun w1 => ?_, (ht.frame _ hlt h.b).trans g6, fun d hd hds => ?_, fun k ok hk hkn hkl hkw => g8 k ok hk hkn (fun q => hkl (hl k q)) hkw⟩, hout, fun q => ?_, fun o q => ?_, h.n⟩
  · rw [execOp_put ob (fun cs b => hsel p.1 ob cs b g1) a oj.dst v s3]
    exact g5 w1
  · have := s2 d hd
    obtain ⟨e1, e2⟩ := put_tmps_ne (a := a) (v := v) this
    rw [e1]
    exact g7 d hd (e2 ▸ hds)
  · rcases ht.znew _ q with q | ⟨o, q⟩ | q
    · exact h.z q
    · exact h.b o q
    · omega
  · rcases ht.bnew o _ q with ⟨o', q⟩ | q
    · exact h.b o' q
    · omega
/-- What has come up. -/
structure Lst (ops : Array Oper) (listed : Array Bool) (ls : List Nat) (pd : List (Nat × Nat)) : Prop where
  size : listed.size = ops.size
  lt : ∀ x ∈ ls, x < ops.size
  plt : ∀ p ∈ pd, p.1 < ops.size
  iff : ∀ j, j < ops.size → (listed.getD j true = false ↔ j ∉ ls ∧ j ∉ pd.map (·.1))
theorem Lst.true_of {ops : Array Oper} {listed : Array Bool} {ls : List Nat} {pd : List (Nat × Nat)} (h : Lst ops listed ls pd) {j : Nat} (hj : j ∈ ls ∨ j ∈ pd.map (·.1)) : listed.getD j false = true := by
  have hlt : j < ops.size := by
    rcases hj with q | q
    · exact h.lt j q
    · obtain ⟨p, hp, rfl⟩ := List.mem_map.1 q
      exact h.plt p hp
  have h1 : ¬ listed.getD j true = false := fun q => by
    have := (h.iff j hlt).1 q
    rcases hj with q' | q'
    · exact this.1 q'
    · exact this.2 q'
  have hl : j < listed.size := by rw [h.size]; exact hlt
  rw [Array.getD_eq_getD_getElem?, Array.getElem?_eq_getElem hl] at h1 ⊢
  simpa using h1
theorem Lst.ready {ops : Array Oper} {listed : Array Bool} {ls : List Nat} {pd : List (Nat × Nat)} (h : Lst ops listed ls pd) {i : Nat} {oi : Oper} (hi : ops[i]? = some oi) (h1 : i ∉ ls) (h2 : i ∉ pd.map (·.1)) (h3 : depsIn ls oi = true) : i ∈ Region.ready .any ops listed :=
  mem_ready.2 ⟨(h.iff i (Array.getElem?_eq_some_iff.1 hi).1).2 ⟨h1, h2⟩, oi, hi, fun e he hb => h.true_of (.inl (depsIn_iff.1 h3 e he hb))⟩
theorem Lst.inv {ops : Array Oper} {listed : Array Bool} {ls : List Nat} {pd : List (Nat × Nat)} (h : Lst ops listed ls pd) {j : Nat} (hj : j ∈ Region.ready .any ops listed) : ∃ oj, ops[j]? = some oj ∧ j ∉ ls ∧ j ∉ pd.map (·.1) ∧ depsIn (ls ++ pd.map (·.1)) oj = true := by
  obtain ⟨h1, oj, h2, h3⟩ := mem_ready.1 hj
  have hlt : j < ops.size := (Array.getElem?_eq_some_iff.1 h2).1
  obtain ⟨h4, h5⟩ := (h.iff j hlt).1 h1
  refine ⟨oj, h2, h4, h5, depsIn_iff.2 fun e he hb => ?_⟩
  have h6 := h3 e he hb
  have hl : e.on < listed.size := by
    rcases Nat.lt_or_ge e.on listed.size with q | q
    · exact q
    · rw [Array.getD_eq_getD_getElem?, Array.getElem?_eq_none q] at h6; cases h6
  have h7 : ¬ listed.getD e.on true = false := by
    rw [Array.getD_eq_getD_getElem?, Array.getElem?_eq_getElem hl] at h6 ⊢
    simpa using h6
  have h8 := fun q => h7 ((h.iff e.on (h.size ▸ hl)).2 q)
  by_cases q : e.on ∈ ls
  · exact List.mem_append_left _ q
  · refine List.mem_append_right _ ?_
    by_cases q' : e.on ∈ pd.map (·.1)
    · exact q'
    · exact absurd ⟨q, q'⟩ h8
theorem Lst.set {ops : Array Oper} {listed : Array Bool} {ls ls' : List Nat} {pd pd' : List (Nat × Nat)} (h : Lst ops listed ls pd) {i : Nat} (hi : i < ops.size) (hl : ∀ x ∈ ls', x < ops.size) (hp : ∀ p ∈ pd', p.1 < ops.size) (hs : ∀ j, (j ∉ ls' ∧ j ∉ pd'.map (·.1)) ↔ (j ≠ i ∧ j ∉ ls ∧ j ∉ pd.map (·.1))) : Lst ops (listed.setIfInBounds i true) ls' pd' := by
  refine ⟨by rw [Array.size_setIfInBounds]; exact h.size, hl, hp, fun j hj => ?_⟩
  rw [hs j]
  by_cases e : i = j
  · subst e
    have : i < listed.size := by rw [h.size]; exact hi
    constructor
    · intro q
      rw [Array.getD_eq_getD_getElem?, Array.getElem?_setIfInBounds_self, if_pos this] at q
      cases q
    · intro q; exact absurd rfl q.1
  · rw [getD_set_ne true e]
    constructor
    · intro q; exact ⟨fun x => e x.symm, (h.iff j hj).1 q⟩
    · intro q; exact (h.iff j hj).2 q.2
def cnt (ops : Array Oper) (listed : Array Bool) : Nat := ((List.range ops.size).filter fun j => !listed.getD j true).length
theorem cnt_set {ops : Array Oper} {listed : Array Bool} {i : Nat} (hi : i < ops.size) (h : listed.getD i true = false) : cnt ops (listed.setIfInBounds i true) < cnt ops listed := by
  unfold cnt
  have e : (List.range ops.size).filter (fun j => !(listed.setIfInBounds i true).getD j true) = ((List.range ops.size).filter (fun j => !listed.getD j true)).filter (fun j => !Nat.beq j i) := by
    rw [List.filter_filter]
    apply List.filter_congr
    intro j _
    by_cases e : i = j
    · subst e
      rw [Nat.beq_refl]
      have hl : i < listed.size := by
        rcases Nat.lt_or_ge i listed.size with q | q
        · exact q
        · rw [Array.getD_eq_getD_getElem?, Array.getElem?_eq_none q] at h; cases h
      rw [Array.getD_eq_getD_getElem?, Array.getElem?_setIfInBounds_self, if_pos hl]
      rfl
    · rw [getD_set_ne true e]
      have : Nat.beq j i = false := by
        cases q : Nat.beq j i with
        | false => rfl
        | true => exact absurd (Nat.eq_of_beq_eq_true q).symm e
      rw [this]; simp
  rw [e]
  exact List.length_filter_lt_length_iff_exists.2 ⟨i, List.mem_filter.2 ⟨List.mem_range.2 hi, by rw [h]; rfl⟩, by rw [Nat.beq_refl]; simp⟩
theorem Sim.putDead (h : Sim P E st a w Z pv bl) {d : Nat} (hd : st.sl d = .dead) (v : Value) : Sim P E st (a.put (some d) v) w Z pv bl := by
  refine ⟨by simp [Act.put, h.n], h.defers, h.out, fun i hi => ?_, h.obs, h.fresh, h.inj, h.own, h.zok⟩
  show RAV _ (st.sl i) ((a.tmps.setIfInBounds d v).getD i undef)
  by_cases hid : i = d
  · subst hid; rw [hd]; exact .dead
  · have : (a.tmps.setIfInBounds d v).getD i undef = a.tmps.getD i undef := by
      simp only [Array.getD_eq_getD_getElem?]
      rw [Array.getElem?_setIfInBounds_ne (fun q => hid q.symm)]
    rw [this]; exact h.slot i
end
end Ev
/- Regions (5): the law. -/
namespace Ev
open Go
section
variable {P : Program} {E : Env} {R : Type} {r : R}

theorem nodup_inj {α β : Type} {f : α → β} : ∀ {l : List α}, (l.map f).Nodup → ∀ {x y : α}, x ∈ l → y ∈ l → f x = f y → x = y
  | [], _, x, _, hx, _, _ => by cases hx
  | z :: l, h, x, y, hx, hy, e => by
    have h' : f z ∉ l.map f ∧ (l.map f).Nodup := List.nodup_cons.1 h
    rcases List.mem_cons.1 hx with e1 | hx1 <;> rcases List.mem_cons.1 hy with e2 | hy1
    · rw [e1, e2]
    · exact absurd (List.mem_map.2 ⟨y, hy1, by rw [← e, e1]⟩) h'.1
    · exact absurd (List.mem_map.2 ⟨x, hx1, by rw [e, e2]⟩) h'.1
    · exact nodup_inj h'.2 hx1 hy1 e
theorem early_not_quiet {op : Op} (h : earlyOp op = true) : quietOp op = false := by
  cases op <;> first | rfl | cases h
theorem draw_sound (ty : TyOK P E) (hO : ∀ g o, E.orc g = some o → Contract P g o) {ops : Array Oper} (hsel : ∀ (j : Nat) (o : Oper) cs b, ops[j]? = some o → o.op ≠ .select cs b) {w0 : World} {Z0 : Zn} {bl0 : Nat → Option Nat} {K : Exit → St → Option R} :
    ∀ (steps : List (Nat × List Nat)) (ls : List Nat) (st : St) (a : Act) (w : World) (Z : Zn) (pv : Nat → Value) (bl : Nat → Option Nat) (pd : List (Nat × Nat)) (listed : Array Bool) (fuel : Nat) (Pr : Nat → Nat → Prop) (pr : Prs),
      stepsOk ops steps ls = true → PrOK E ops Pr ls pr w Z bl → Sim P E st a w Z pv bl → Tr w0 Z0 bl0 w Z bl → (∀ p ∈ pd, Pend P ops a w Z bl w0.heap.size ls p) → (pd.map (·.1)).Nodup → (pd.map (·.2)).Nodup → Lst ops listed ls pd → cnt ops listed ≤ fuel →
      evSteps E ops steps ls pr st (K .normal) = some r → wpK P ops (Post P E w0 Z0 bl0 K r) Pr fuel listed a w := by
  intro steps
  induction steps with
  | nil =>
    intro ls st a w Z pv bl pd listed fuel Pr pr hst hPr h ht _ _ _ hL _ he
    have hr : Region.ready .any ops listed = [] := by
      cases hr : Region.ready .any ops listed with
      | nil => rfl
      | cons j rs =>
        obtain ⟨oj, h1, h2, _⟩ := hL.inv (show j ∈ Region.ready .any ops listed by rw [hr]; exact List.mem_cons_self ..)
        have hlt : j < ops.size := (Array.getElem?_eq_some_iff.1 h1).1
        simp only [stepsOk] at hst
        rw [List.all_eq_true] at hst
        exact absurd (List.contains_iff_mem.1 (hst j (List.mem_range.2 hlt))) h2
    have hQ : Post P E w0 Z0 bl0 K r .normal a w := ⟨fun _ q => (by cases q), st, Z, pv, bl, h, ht, he⟩
    cases fuel with
    | zero => exact ⟨hr, hQ⟩
    | succ fuel => exact ⟨fun _ => hQ, fun i hi => by rw [hr] at hi; cases hi⟩
  | cons s steps ih =>
    obtain ⟨i, B⟩ := s
    intro ls st a w Z pv bl pd listed fuel Pr pr hst hPr h ht hp hnd1 hnd2 hL hf he
    simp only [stepsOk, Bool.and_eq_true] at hst
    obtain ⟨hok, hst⟩ := hst
    unfold stepOk at hok
    cases hi : ops[i]? with
    | none => rw [hi] at hok; cases hok
    | some oi =>
      rw [hi] at hok
      simp only [Bool.and_eq_true] at hok
      obtain ⟨hil, hdeps, hok⟩ := hok
      have hil' : i ∉ ls := contains_false hil
      have hilt : i < ops.size := (Array.getElem?_eq_some_iff.1 hi).1
      simp only [evSteps, hi] at he
      have hls' : ∀ x ∈ i :: ls, x < ops.size := fun x hx => by
        rcases List.mem_cons.1 hx with rfl | hx
        · exact hilt
        · exact hL.lt x hx
      have hwaitp : ∀ p ∈ pd, waitsB oi p.1 = false := fun p hp' => waits_false.2 fun e he hb heq => (hp p hp').out (heq ▸ depsIn_iff.1 hdeps e he hb)
      by_cases hpd : i ∈ pd.map (·.1)
      · -- it has come up already: its block stands
        obtain ⟨p, hpm, hpi⟩ := List.mem_map.1 hpd
        have hP := hp p hpm
        obtain ⟨ob, obj, mk, g1, g2, g3, g4, g5, g6, g7, g8⟩ := hP.ex
        rw [hpi] at g1
        obtain rfl : ob = oi := Option.some.inj (g1.symm.trans hi)
        have hq : quietOp ob.op = false := early_not_quiet g2
        rw [if_neg (by rw [hq]; simp)] at hok
        simp only [Bool.and_eq_true] at hok
        obtain ⟨hB, hall⟩ := hok
        rw [List.all_eq_true] at hB
        obtain ⟨hk1, _, _⟩ := kill_sound ops B st h
        have hBe : ∀ b ∈ B, ∃ ob, ops[b]? = some ob ∧ earlyOp ob.op = true := fun b hb => by
          have := hB b hb
          unfold earlyB at this
          split at this
          · rename_i ob' hob'
            simp only [Bool.and_eq_true] at this
            exact ⟨ob', hob', this.1⟩
          · cases this
        obtain ⟨he1, _⟩ := evB_sound ty hO hk1 B hBe he
        rw [if_neg (by rw [hq]; simp)] at he1
        have hwr0 : wrIds E (killB ops B st) ob.op = [] := early_wr g2
        rw [hwr0] at he1
        have hdrop : dropW [] pr = pr := by
          unfold dropW
          rw [List.filter_eq_self]
          exact fun q _ => apartB_nil q.2
        rw [hdrop] at he1
        split at he1
        rotate_left
        · cases he1
        unfold evOper at he1
        rw [g3] at he1
        have he1' : evOp E ob (killB ops B st) (fun v st' => evSteps E ops steps (i :: ls) pr (st'.put ob.dst v) (K .normal)) = some r := he1
        obtain ⟨obj', mk', a1, _, a3⟩ := early_sound ty hO hk1 g2 he1'
        obtain ⟨e1, e2⟩ := a1.uniq g5
        subst e1
        obtain ⟨av, st', Z', pv', bl', q1, q2, q3, q4, q5, q6, q7⟩ := a3 p.2 g6 hP.z hP.b
        have hput : Sim P E (st'.put ob.dst av) a w Z' pv' bl' := by
          cases hd : ob.dst with
          | none => exact q1
          | some d => exact q1.putBack q2 (fun hds => by rw [e2]; exact g7 d hd hds)
        have ht2 : Tr w0 Z0 bl0 w Z' bl' := ⟨ht.os, ht.tape, ht.output, ht.size, ht.frame, fun b hb => q4 b (ht.zle b hb), fun b hb => by
            rcases q5 b hb with q | ⟨o, q⟩
            · exact ht.znew b q
            · exact .inr (ht.bnew o b q), fun o b hb => by
            rcases q6 o b hb with ⟨o', q⟩ | q
            · exact ht.bnew o' b q
            · exact .inr (q ▸ hP.n)⟩
        -- the others that have come up early
        have hpd' : ∀ p' ∈ pd.filter (fun p' => !Nat.beq p'.1 i), p' ∈ pd ∧ p'.1 ≠ i := fun p' hp' => by
          obtain ⟨x1, x2⟩ := List.mem_filter.1 hp'
          refine ⟨x1, fun e => ?_⟩
          rw [e, Nat.beq_refl] at x2; cases x2
        have hsub : (pd.filter (fun p' => !Nat.beq p'.1 i)).Sublist pd := List.filter_sublist
        refine ih (i :: ls) _ a w Z' pv' bl' (pd.filter (fun p' => !Nat.beq p'.1 i)) listed fuel Pr pr hst (hPr.mono (fun x hx => List.mem_cons_of_mem _ hx) (Nat.le_refl _) q4 q7) hput ht2 (fun p' hp' => ?_) (hnd1.sublist (hsub.map _)) (hnd2.sublist (hsub.map _)) ?_ hf q3
        · obtain ⟨x1, x2⟩ := hpd' p' hp'
          have hP' := hp p' x1
          obtain ⟨ob2, obj2, mk2, f1, f2, f3, f4, f5, f6, f7, f8⟩ := hP'.ex
          have hne2 : p'.2 ≠ p.2 := fun e => by
            have : p' = p := nodup_inj hnd2 x1 hpm e
            exact x2 (by rw [this, hpi])
          refine ⟨⟨ob2, obj2, mk2, f1, f2, f3, depsIn_mono f4 (fun x hx => List.mem_cons_of_mem _ hx), f5, f6, f7, fun j oj hj hn hl hw => f8 j oj hj hn (fun q => hl (List.mem_cons_of_mem _ q)) hw⟩, fun q => ?_, fun q => ?_, fun o q => ?_, hP'.n⟩
          · rcases List.mem_cons.1 q with q | q
            · exact x2 q
            · exact hP'.out q
          · rcases q5 _ q with q | ⟨o, q⟩
            · exact hP'.z q
            · exact hP'.b o q
          · rcases q6 o _ q with ⟨o', q⟩ | q
            · exact hP'.b o' q
            · exact hne2 q
        · refine ⟨hL.size, hls', fun p' hp' => hL.plt p' (hpd' p' hp').1, fun j hj => ?_⟩
          rw [hL.iff j hj]
          have hm : ∀ x, x ∈ (pd.filter (fun p' => !Nat.beq p'.1 i)).map (·.1) ↔ x ∈ pd.map (·.1) ∧ x ≠ i := fun x => by
            constructor
            · intro hx
              obtain ⟨p', hp', rfl⟩ := List.mem_map.1 hx
              exact ⟨List.mem_map.2 ⟨p', (hpd' p' hp').1, rfl⟩, (hpd' p' hp').2⟩
            · rintro ⟨hx, hne⟩
              obtain ⟨p', hp', rfl⟩ := List.mem_map.1 hx
              refine List.mem_map.2 ⟨p', List.mem_filter.2 ⟨hp', ?_⟩, rfl⟩
              have : Nat.beq p'.1 i = false := by
                cases q : Nat.beq p'.1 i with
                | false => rfl
                | true => exact absurd (Nat.eq_of_beq_eq_true q) hne
              rw [this]; rfl
          rw [hm]
          constructor
          · rintro ⟨y1, y2⟩
            exact ⟨fun q => by
              rcases List.mem_cons.1 q with q | q
              · exact y2 (q ▸ hpd)
              · exact y1 q, fun q => y2 q.1⟩
          · rintro ⟨y1, y2⟩
            refine ⟨fun q => y1 (List.mem_cons_of_mem _ q), fun q => y2 ⟨q, fun e => y1 (e ▸ List.mem_cons_self ..)⟩⟩
      · -- it is yet to come
        have hready := hL.ready hi hil' hpd hdeps
        have hun := (mem_ready.1 hready).1
        have hLset : Lst ops (listed.setIfInBounds i true) (i :: ls) pd := hL.set hilt hls' hL.plt fun j => by
          constructor
          · rintro ⟨y1, y2⟩
            exact ⟨fun e => y1 (e ▸ List.mem_cons_self ..), fun q => y1 (List.mem_cons_of_mem _ q), y2⟩
          · rintro ⟨y0, y1, y2⟩
            exact ⟨fun q => by
              rcases List.mem_cons.1 q with q | q
              · exact y0 q
              · exact y1 q, y2⟩
        have hcnt := cnt_set hilt hun
        by_cases hq : quietOp oi.op = true
        · -- a quiet one is taken first
          rw [if_pos hq] at hok
          simp only [Bool.and_eq_true] at hok
          obtain ⟨hBe, hju, hDls, hfree⟩ := hok
          have hB0 : B = [] := List.isEmpty_iff.1 hBe
          subst hB0
          have he0 : (if quietOp oi.op = true then evOper E ops.toList oi st (fun st' => evSteps E ops steps (i :: ls) ((i, rdIds st oi.op) :: pr) st' (K .normal))
            else if okW E ops ls i (wrIds E st oi.op) pr = true then evOper E ops.toList oi st (fun st' => evSteps E ops steps (i :: ls) (dropW (wrIds E st oi.op) pr) st' (K .normal)) else none) = some r := he
          rw [if_pos hq] at he0
          obtain ⟨v, st', Z', pv', bl', y1, y2, y3, y4, y5⟩ := oper_quiet ty hO h hq he0
          have hDls' : ∀ j ∈ downB ops i, j ∉ ls := fun j hj => by
            rw [List.all_eq_true] at hDls
            exact contains_false (hDls j hj)
          cases fuel with
          | zero => omega
          | succ fuel =>
            refine wpK_first hi hsel (fun c a w q => q.1 c rfl) (D := downB ops i) (S := fun b => Z b ∨ ∃ o2 ∈ rdIds st oi.op, bl o2 = some b) (Pr' := fun k b => Pr k b ∨ (k ∉ downB ops i ∧ (Z b ∨ ∃ o2 ∈ rdIds st oi.op, bl o2 = some b))) (justB_spec hju) (fun j b q => .inl q) fuel listed a w (fun j hj => ?_) (fun j oj hj hne hjD hunj => ?_) hready y1 ?_
            · obtain ⟨oj, hoj, _⟩ := justB_spec hju j hj
              refine (hL.iff j (Array.getElem?_eq_some_iff.1 hoj).1).2 ⟨hDls' j hj, fun hm => ?_⟩
              obtain ⟨p, hp', hpj⟩ := List.mem_map.1 hm
              obtain ⟨ob, obj, mk, f1, f2, f3, f4, _⟩ := (hp p hp').ex
              rw [hpj] at f1
              obtain rfl : ob = oj := Option.some.inj (f1.symm.trans hoj)
              obtain ⟨oj', hoj', e, he', hb, hon⟩ := justB_spec hju j hj
              obtain rfl : oj' = ob := Option.some.inj (hoj'.symm.trans hoj)
              have hin := depsIn_iff.1 f4 e he' hb
              rcases hon with q | q
              · exact hil' (q ▸ hin)
              · exact hDls' _ q hin
            · have hjl : j ∉ ls := ((hL.iff j (Array.getElem?_eq_some_iff.1 hj).1).1 hunj).1
              exact ⟨freeD_spec hfree hj hne hjl hjD, fun b hb => .inr ⟨hjD, hb⟩⟩
            · refine ih (i :: ls) st' _ w Z' pv' bl' pd _ fuel _ _ hst (fun k ok hk hkl b hb => ?_) y2 (ht.trans y3) (fun p hp' => (hp p hp').step hsel hi (fun e => hpd (List.mem_map.2 ⟨p, hp', e.symm⟩)) hil' (hwaitp p hp') (fun x hx => List.mem_cons_of_mem _ hx) (fun q => by
                rcases List.mem_cons.1 q with q | q
                · exact hpd (List.mem_map.2 ⟨p, hp', q⟩)
                · exact (hp p hp').out q) y3 v) hnd1 hnd2 hLset (by omega) y4
              rcases hb with hb | ⟨hkD, hb⟩
              · obtain ⟨g1, g2⟩ := (hPr.mono (E := E) (ls' := i :: ls) (fun x hx => List.mem_cons_of_mem _ hx) (Nat.le_refl _) y3.zle y5) k ok hk hkl b hb
                exact ⟨g1, g2.imp id (Or.imp id fun ⟨q, hq1, hq2⟩ => ⟨q, List.mem_cons_of_mem _ hq1, hq2⟩)⟩
              · rcases hb with hb | ⟨o2, ho2, hb⟩
                · exact ⟨h.zok b hb, .inl (y3.zle b hb)⟩
                · refine ⟨(h.own o2 b hb).2, ?_⟩
                  rcases y5 o2 b hb (fun q => by cases q) with q | q
                  · exact .inr (.inr ⟨_, List.mem_cons_self .., hkD, o2, ho2, q⟩)
                  · exact .inl q
        · -- one that acts: it, or new memory, comes up
          rw [if_neg hq] at hok
          simp only [Bool.and_eq_true] at hok
          obtain ⟨hB, hall⟩ := hok
          rw [List.all_eq_true] at hB hall
          obtain ⟨hk1, _, hk3⟩ := kill_sound ops B st h
          have hBs : ∀ b ∈ B, ∃ ob, ops[b]? = some ob ∧ earlyOp ob.op = true ∧ ob.guard = none ∧ b ≠ i ∧ b ∉ ls ∧ depsIn ls ob = true ∧ freeB ops ls b ob = true ∧ selfB ops ob = true := fun b hb => by
            have := hB b hb
            unfold earlyB at this
            split at this
            · rename_i ob' hob'
              simp only [Bool.and_eq_true] at this
              obtain ⟨t1, t2, t3, t4, t5, t6, t7⟩ := this
              refine ⟨ob', hob', t1, Option.isNone_iff_eq_none.1 t2, fun e => ?_, contains_false t4, t5, t6, t7⟩
              rw [e, Nat.beq_refl] at t3; cases t3
            · cases this
          obtain ⟨he1, hBev⟩ := evB_sound ty hO hk1 B (fun b hb => by obtain ⟨ob, t1, t2, _⟩ := hBs b hb; exact ⟨ob, t1, t2⟩) he
          rw [if_neg hq] at he1
          have hokW : okW E ops ls i (wrIds E (killB ops B st) oi.op) pr = true := by
            split at he1
            · assumption
            · cases he1
          rw [if_pos hokW] at he1
          have inner : ∀ (fuel : Nat) (pd : List (Nat × Nat)) (listed : Array Bool) (a : Act) (w : World), i ∉ pd.map (·.1) → PrOK E ops Pr ls pr w Z bl → Sim P E (killB ops B st) a w Z pv bl → Tr w0 Z0 bl0 w Z bl → (∀ p ∈ pd, Pend P ops a w Z bl w0.heap.size ls p) → (pd.map (·.1)).Nodup → (pd.map (·.2)).Nodup → Lst ops listed ls pd → cnt ops listed ≤ fuel →
              wpK P ops (Post P E w0 Z0 bl0 K r) Pr fuel listed a w := by
            intro fuel
            induction fuel with
            | zero =>
              intro pd listed a w hpd _ _ _ _ _ _ hL hf
              have hready := hL.ready hi hil' hpd hdeps
              have := cnt_set hilt (mem_ready.1 hready).1
              omega
            | succ fuel ihf =>
              intro pd listed a w hpd hPr h ht hp hnd1 hnd2 hL hf
              have hready := hL.ready hi hil' hpd hdeps
              have hwaitp : ∀ p ∈ pd, waitsB oi p.1 = false := fun p hp' => waits_false.2 fun e he hb heq => (hp p hp').out (heq ▸ depsIn_iff.1 hdeps e he hb)
              have hpB : ∀ p ∈ pd, p.1 ∈ B := fun p hp' => by
                obtain ⟨ob, obj, mk, f1, f2, f3, f4, _⟩ := (hp p hp').ex
                have := hall p.1 (List.mem_range.2 (Array.getElem?_eq_some_iff.1 f1).1)
                rw [f1] at this
                simp only [Bool.or_eq_true] at this
                rcases this with q | q | q | q
                · exact absurd (List.contains_iff_mem.1 q) (hp p hp').out
                · exact absurd (List.mem_map.2 ⟨p, hp', Nat.eq_of_beq_eq_true q⟩) hpd
                · exact List.contains_iff_mem.1 q
                · rw [depsIn_mono f4 (fun x hx => List.mem_append_left _ hx)] at q; cases q
              refine ⟨fun q => (by rw [q] at hready; cases hready), fun j hj => ?_⟩
              by_cases hji : j = i
              · subst hji
                have hun := (mem_ready.1 hready).1
                have hcnt := cnt_set hilt hun
                refine oper_wpOp ty hO h hi he1 fun v st' w' Z' pv' bl' y1 y2 y3 y4 => ?_
                obtain ⟨x1, x2⟩ := PrOK.wrote h hPr hi hil' hokW (fun q => mild_wr q) y2 y4
                refine ⟨x1, ?_⟩
                refine ih (j :: ls) st' _ w' Z' pv' bl' pd _ fuel Pr _ hst x2 y1 (ht.trans y2) (fun p hp' => (hp p hp').step hsel hi (fun e => hpd (List.mem_map.2 ⟨p, hp', e.symm⟩)) hil' (hwaitp p hp') (fun x hx => List.mem_cons_of_mem _ hx) (fun q => by
                  rcases List.mem_cons.1 q with q | q
                  · exact hpd (List.mem_map.2 ⟨p, hp', q⟩)
                  · exact (hp p hp').out q) y2 v) hnd1 hnd2 (hL.set hilt hls' hL.plt fun k => ?_) (by omega) y3
                constructor
                · rintro ⟨z1, z2⟩
                  exact ⟨fun e => z1 (e ▸ List.mem_cons_self ..), fun q => z1 (List.mem_cons_of_mem _ q), z2⟩
                · rintro ⟨z0, z1, z2⟩
                  exact ⟨fun q => by
                    rcases List.mem_cons.1 q with q | q
                    · exact z0 q
                    · exact z1 q, z2⟩
              · obtain ⟨oj, hoj, hjl, hjp, hjd⟩ := hL.inv hj
                have hjlt : j < ops.size := (Array.getElem?_eq_some_iff.1 hoj).1
                have hjB : j ∈ B := by
                  have := hall j (List.mem_range.2 hjlt)
                  rw [hoj] at this
                  simp only [Bool.or_eq_true] at this
                  rcases this with q | q | q | q
                  · exact absurd (List.contains_iff_mem.1 q) hjl
                  · exact absurd (Nat.eq_of_beq_eq_true q) hji
                  · exact List.contains_iff_mem.1 q
                  · have := depsIn_mono hjd (ls' := ls ++ B) (fun x hx => by
                      rcases List.mem_append.1 hx with hx | hx
                      · exact List.mem_append_left _ hx
                      · obtain ⟨p, hp', rfl⟩ := List.mem_map.1 hx
                        exact List.mem_append_right _ (hpB p hp'))
                    rw [this] at q; cases q
                obtain ⟨ob, t1, t2, t3, t4, t5, t6, t7, t8⟩ := hBs j hjB
                obtain rfl : ob = oj := Option.some.inj (t1.symm.trans hoj)
                obtain ⟨ob', Y, u1, u2⟩ := hBev j hjB
                obtain rfl : ob' = ob := Option.some.inj (u1.symm.trans hoj)
                obtain ⟨obj, mk, a1, _, _⟩ := early_sound ty hO h t2 u2
                have hun := (mem_ready.1 hj).1
                have hcnt := cnt_set hjlt hun
                unfold wpOp
                simp only [hoj]
                have hwant : Region.wanted ob' (yielded ops a.tmps) = true := by unfold Region.wanted; rw [t3]
                rw [if_pos hwant]
                left
                unfold Oper.wp
                rw [a1 w]
                show (∀ b, Pr j b → (w.alloc obj).heap[b]? = w.heap[b]?) ∧ _
                have hkept := kept_alloc w obj
                refine ⟨fun b hb => hkept.2.2.2.2 b (hPr j ob' hoj hjl b hb).1, ?_⟩
                have hsim : Sim P E (killB ops B st) (a.put ob'.dst (mk w.heap.size)) (w.alloc obj) Z pv bl := by
                  have h1 := h.kept hkept
                  cases hd : ob'.dst with
                  | none => exact h1
                  | some d => exact h1.putDead (hk3 j hjB ob' hoj d hd) _
                have htr : Tr w Z bl (w.alloc obj) Z bl := Tr.kept hkept Z bl
                refine ihf ((j, w.heap.size) :: pd) _ _ _ (fun q => ?_) (hPr.mono (fun _ h => h) hkept.2.2.2.1 (fun _ h => h) (Keep.refl _ _ _)) hsim (ht.trans htr) (fun p hp' => ?_) (List.nodup_cons.2 ⟨hjp, hnd1⟩) (List.nodup_cons.2 ⟨fun q => ?_, hnd2⟩) (hL.set hjlt hL.lt (fun p hp' => ?_) fun k => ?_) (by omega)
                · rcases List.mem_cons.1 q with q | q
                  · exact hji q.symm
                  · exact hpd q
                · rcases List.mem_cons.1 hp' with rfl | hp'
                  · refine ⟨⟨ob', obj, mk, hoj, t2, t3, t6, fun w1 => ?_, alloc_new w obj, fun d hd hds => ?_, fun k ok hk hkn hkl hkw => freeB_spec t7 hk hkn hkl hkw⟩, t5, fun q => ?_, fun o q => ?_, ht.size⟩
                    · have hself : ∀ d, ob'.dst = some d → d ∉ ob'.looksAt ops := fun d hd => by
                        unfold selfB at t8
                        rw [hd] at t8
                        intro hm
                        have : (ob'.looksAt ops).contains d = true := List.contains_iff_mem.2 hm
                        have t8' : (!(ob'.looksAt ops).contains d) = true := t8
                        rw [this] at t8'; cases t8'
                      rw [execOp_put ob' (fun cs b => hsel j ob' cs b hoj) a ob'.dst _ hself]
                      exact a1 w1
                    · rw [hd] at hds ⊢
                      have : d < a.tmps.size := by
                        have e : (a.put (some d) (mk w.heap.size)).tmps.size = a.tmps.size := Array.size_setIfInBounds
                        rw [e] at hds; exact hds
                      show (a.tmps.setIfInBounds d (mk w.heap.size))[d]? = _
                      rw [Array.getElem?_setIfInBounds_self, if_pos this]
                    · have := h.zok _ q
                      exact absurd this (Nat.lt_irrefl _)
                    · have := (h.own o _ q).2
                      exact absurd this (Nat.lt_irrefl _)
                  · refine (hp p hp').step hsel hoj (fun e => hjp (List.mem_map.2 ⟨p, hp', e.symm⟩)) hjl (waits_false.2 fun e he hb heq => (hp p hp').out (heq ▸ depsIn_iff.1 t6 e he hb)) (fun x hx => hx) (hp p hp').out htr _
                · obtain ⟨p, hp', e⟩ := List.mem_map.1 q
                  have := (hp p hp').lt
                  rw [e] at this
                  exact Nat.lt_irrefl _ this
                · rcases List.mem_cons.1 hp' with rfl | hp'
                  · exact hjlt
                  · exact hL.plt p hp'
                · constructor
                  · rintro ⟨z1, z2⟩
                    exact ⟨fun e => z2 (e ▸ List.mem_cons_self ..), z1, fun q => z2 (List.mem_cons_of_mem _ q)⟩
                  · rintro ⟨z0, z1, z2⟩
                    refine ⟨z1, fun q => ?_⟩
                    rcases List.mem_cons.1 q with q | q
                    · exact z0 q
                    · exact z2 q
          exact inner fuel pd listed a w hpd hPr hk1 ht hp hnd1 hnd2 hL hf

theorem kept_drawn (w : World) : Kept w { w with drawn := w.drawn + 1 } := ⟨rfl, rfl, rfl, Nat.le_refl _, fun _ _ => rfl⟩
theorem region_draw_any {st : St} {a : Act} {w : World} {Z : Zn} {pv : Nat → Value} {bl : Nat → Option Nat} (ty : TyOK P E) (hO : ∀ g o, E.orc g = some o → Contract P g o) {w0 : World} {Z0 : Zn} {bl0 : Nat → Option Nat} {ops : Array Oper} {K : Exit → St → Option R} (h : Sim P E st a w Z pv bl) (ht : Tr w0 Z0 bl0 w Z bl)
    {steps : List (Nat × List Nat)} (hok : drawOk ops steps = true) (he : evSteps E ops steps [] [] st (K .normal) = some r) : wpAny P .any ops (Post P E w0 Z0 bl0 K r) ops.size (Array.replicate ops.size false) a { w with drawn := w.drawn + 1 } := by
  unfold drawOk at hok
  simp only [Bool.and_eq_true] at hok
  have hk := kept_drawn w
  refine wpAny_of_K _ _ _ _ (draw_sound ty hO (Region.noSelect_spec hok.1) steps [] st a _ Z pv bl [] _ _ (fun _ _ => False) [] hok.2 (fun _ _ _ _ _ q => q.elim) (h.kept hk) (ht.trans (Tr.kept hk Z bl)) (fun p hp => by cases hp) List.nodup_nil List.nodup_nil ?_ ?_ he)
  · refine ⟨Array.size_replicate, fun x hx => (by cases hx), fun p hp => (by cases hp), fun j hj => ?_⟩
    constructor
    · intro _; exact ⟨List.not_mem_nil, List.not_mem_nil⟩
    · intro _
      rw [Array.getD_eq_getD_getElem?, Array.getElem?_replicate, if_pos hj]; rfl
  · unfold cnt
    exact Nat.le_trans (List.length_filter_le _ _) (by rw [List.length_range]; exact Nat.le_refl _)
end
end Ev
/- Code (1): states told by their values. -/
namespace Ev
open Go
section
variable {P : Program} {E : Env} {st : St} {a : Act} {w : World} {Z : Zn} {pv : Nat → Value} {bl : Nat → Option Nat} {R : Type} {r : R}

/-- What a new state may take of the old one's objects. -/
def Takes (bl : Nat → Option Nat) (Z' : Zn) (blN : Nat → Option Nat) (own : List Nat) : Prop := ∀ o ∈ own, ∀ b, bl o = some b → ¬ Z' b ∧ ∀ o', blN o' ≠ some b
def Grows (bl blN blN' : Nat → Option Nat) (own : List Nat) : Prop := ∀ o b, blN' o = some b → (∃ o', blN o' = some b) ∨ ∃ o' ∈ own, bl o' = some b
theorem newObj_own (_hN : ∀ {_st : St} {_pvN : Nat → Value} {_blN : Nat → Option Nat}, True) : True := trivial
/-- The n-th object of a new state. -/
theorem Sim.take (h : Sim P E st a w Z pv bl) {stN : St} {Z' : Zn} {pvN : Nat → Value} {blN : Nat → Option Nat} (hN : Sim P E stN a w Z' pvN blN) {o : Nat} {ob : Ob} {vn : Value} (hT : Takes bl Z' blN [o])
    (hob : RepOb (cx P E (stN.new ob) w Z' (upd pvN stN.nx vn) (upd blN stN.nx (bl o))) stN.nx ob) : Sim P E (stN.new ob) a w Z' (upd pvN stN.nx vn) (upd blN stN.nx (bl o)) :=
  hN.new (fun b hb => ⟨(hT o (List.mem_singleton.2 rfl) b hb).2, (hT o (List.mem_singleton.2 rfl) b hb).1, (h.own o b hb).2⟩) hob
theorem grows_take {blN : Nat → Option Nat} {o n : Nat} : Grows bl blN (upd blN n (bl o)) [o] := fun o' b hb => by
  by_cases he : o' = n
  · subst he; rw [upd_same] at hb; exact .inr ⟨o, List.mem_singleton.2 rfl, hb⟩
  · rw [upd_ne _ _ he] at hb; exact .inl ⟨o', hb⟩
theorem Grows.refl {blN : Nat → Option Nat} {own : List Nat} : Grows bl blN blN own := fun o _b hb => .inl ⟨o, hb⟩
theorem Grows.trans {bl0 bl1 bl2 : Nat → Option Nat} {o1 o2 : List Nat} (h : Grows bl bl0 bl1 o1) (k : Grows bl bl1 bl2 o2) : Grows bl bl0 bl2 (o1 ++ o2) := fun o b hb => by
  rcases k o b hb with ⟨o', q⟩ | ⟨o', q, q2⟩
  · rcases h o' b q with q | ⟨o2, q, q2⟩
    · exact .inl q
    · exact .inr ⟨o2, List.mem_append_left _ q, q2⟩
  · exact .inr ⟨o', List.mem_append_right _ q, q2⟩
theorem Takes.after (h : Sim P E st a w Z pv bl) {Z' : Zn} {bl0 bl1 : Nat → Option Nat} {o1 o2 : List Nat} (hT : Takes bl Z' bl0 (o1 ++ o2)) (hg : Grows bl bl0 bl1 o1) (hd : ∀ x ∈ o1, x ∉ o2) : Takes bl Z' bl1 o2 := fun o ho b hb => by
  obtain ⟨t1, t2⟩ := hT o (List.mem_append_right _ ho) b hb
  refine ⟨t1, fun o' q => ?_⟩
  rcases hg o' b q with ⟨o2', q⟩ | ⟨o2', q, q2⟩
  · exact t2 o2' q
  · exact hd o2' q (h.inj o2' o b q2 hb ▸ ho)
theorem Takes.left {Z' : Zn} {bl0 : Nat → Option Nat} {o1 o2 : List Nat} (hT : Takes bl Z' bl0 (o1 ++ o2)) : Takes bl Z' bl0 o1 := fun o ho => hT o (List.mem_append_left _ ho)

theorem own_one {P : Program} {Z : Zn} {w : World} {e : TypeId} {t : T} {l : List t.in} {k : Nat} {v : Value} (h : Own P Z w e t l k v) : Own P Z w e t l 1 v := by
  obtain ⟨xs, h1, h2⟩ := h
  exact ⟨xs, h1, h2.imp id fun ⟨g, cap, cur, fr, a, b, c, d, e, f, q⟩ => ⟨g, cap, cur, fr, a, b, c, d, e, f, q.imp id fun q => ⟨by decide, q.2⟩⟩⟩
/-- A value's shape, read and built anew. -/
theorem build_sound (hO : ∀ g o, E.orc g = some o → Contract P g o) (h : Sim P E st a w Z pv bl) {Z' : Zn} (hz : Zle Z Z') : ∀ (s : Sh) (t' : T) (av : AV) (cs : List Value) (x : s.in) (stN : St) (pvN : Nat → Value) (blN : Nat → Option Nat),
    RA (cx P E st w Z pv bl) t' av cs → readSh E st s av = some x → Sim P E stN a w Z' pvN blN → Takes bl Z' blN (ownSh st s av) → (ownSh st s av).Nodup → (∀ y ∈ fzSh st s av, ∀ b, bl y = some b → Z' b) →
    ∃ pvN' blN', Sim P E (buildSh s x stN).2 a w Z' pvN' blN' ∧ Ext (cx P E stN w Z' pvN blN) (cx P E (buildSh s x stN).2 w Z' pvN' blN') ∧ RA (cx P E (buildSh s x stN).2 w Z' pvN' blN') s.ty (buildSh s x stN).1 cs ∧ Grows bl blN blN' (ownSh st s av) ∧
      (s.agg = true → ∃ vs, (buildSh s x stN).1 = .agg vs) := by
  intro s
  induction s with
  | v t =>
    intro t' av cs x stN pvN blN hr hs hN _ _ hfz
    have hs' : sn E st t av = some x := by cases av <;> exact hs
    have hrep := (snap_sound hO h.obs 24).2 t' t av cs x hr hs'
    have e1 : fzSh st (.v t) av = tch st av := by cases av <;> rfl
    rw [e1] at hfz
    have hz2 : Zle (Zt Z bl (touch st 24 av)) Z' := fun b hb => by
      rcases hb with q | ⟨o, ho, q⟩
      · exact hz b q
      · exact hfz o ho b q
    exact ⟨pvN, blN, hN, Ext.refl _, .val (hrep.mono hz2 (Agree.refl _ _)), Grows.refl, fun q => by cases q⟩
  | o e t =>
    intro t' av cs x stN pvN blN hr hs hN hT hnd hfz
    cases av <;> simp only [readSh] at hs <;> first | cases hs | skip
    rename_i o
    split at hs
    · rename_i e' u l hh
      split at hs
      · rename_i he
        obtain rfl := Nat.eq_of_beq_eq_true he
        obtain ⟨e1, e2⟩ := cast_some hs
        injection e1 with e1
        subst e1
        have e2' : x = l := e2
        cases hr with
        | @ref _ _ v h1 h2 h3 h4 =>
          have hv : v = pv o := h2.2 _ _ _ _ hh
          have hob : RepOb (cx P E st w Z pv bl) o (.arr e u l 0) := hh ▸ h.obs o h2.1
          rcases hob.2 with ⟨_, hown, hbl⟩ | ⟨q, _⟩
          · have hown' : Own P Z w e u l 0 (pv o) := hown
            have hbl' : bl o = (pv o).ownBlock := hbl
            have hnew := h.take hN (o := o) (ob := .arr e u x 0) (vn := pv o) hT ⟨hob.1, .inl ⟨Nat.zero_le _, by
              show Own P Z' w e u x 0 (upd pvN stN.nx (pv o) stN.nx)
              rw [upd_same, e2']
              exact hown'.mono hz (Agree.refl _ _) (fun _ _ => rfl), by
              show upd blN stN.nx _ stN.nx = (upd pvN stN.nx (pv o) stN.nx).ownBlock
              rw [upd_same, upd_same]; exact hbl'⟩⟩
            refine ⟨_, _, hnew, hN.extNew _ _ _, ?_, grows_take, fun q => by cases q⟩
            refine .ref rfl ⟨Nat.lt_succ_self _, fun _ _ _ _ _ => hv.trans (upd_same _ _ _).symm⟩ (fun e2 u2 l2 k2 hh2 => ?_) rfl
            have hh2' : (stN.new (.arr e u x 0)).hp stN.nx = _ := hh2
            have e3 : (stN.new (.arr e u x 0)).hp stN.nx = .arr e u x 0 := upd_same _ _ _
            rw [e3] at hh2'
            cases hh2'; rfl
          · cases q
      · cases hs
    · cases hs
  | w e t =>
    intro t' av cs x stN pvN blN hr hs hN hT hnd hfz
    cases av <;> simp only [readSh] at hs <;> first | cases hs | skip
    rename_i o
    split at hs
    · rename_i e' u l kk hh
      split at hs
      · rename_i he
        obtain rfl := Nat.eq_of_beq_eq_true he
        split at hs
        rotate_left
        · cases hs
        rename_i hkk
        have hk1 : kk ≤ 1 := Nat.le_of_ble_eq_true hkk
        obtain ⟨e1, e2⟩ := cast_some hs
        injection e1 with e1
        subst e1
        have e2' : x = l := e2
        cases hr with
        | @ref _ _ v h1 h2 h3 h4 =>
          have hv : v = pv o := h2.2 _ _ _ _ hh
          have hob : RepOb (cx P E st w Z pv bl) o (.arr e u l kk) := hh ▸ h.obs o h2.1
          rcases hob.2 with ⟨_, hown, hbl⟩ | ⟨q, _⟩
          · have hown' : Own P Z w e u l 1 (pv o) := own_one hown
            have hbl' : bl o = (pv o).ownBlock := hbl
            have hnew := h.take hN (o := o) (ob := .arr e u x 1) (vn := pv o) hT ⟨hob.1, .inl ⟨Nat.le_refl _, by
              show Own P Z' w e u x 1 (upd pvN stN.nx (pv o) stN.nx)
              rw [upd_same, e2']
              exact hown'.mono hz (Agree.refl _ _) (fun _ _ => rfl), by
              show upd blN stN.nx _ stN.nx = (upd pvN stN.nx (pv o) stN.nx).ownBlock
              rw [upd_same, upd_same]; exact hbl'⟩⟩
            refine ⟨_, _, hnew, hN.extNew _ _ _, ?_, grows_take, fun q => by cases q⟩
            refine .ref rfl ⟨Nat.lt_succ_self _, fun _ _ _ _ _ => hv.trans (upd_same _ _ _).symm⟩ (fun e2 u2 l2 k2 hh2 => ?_) rfl
            have hh2' : (stN.new (.arr e u x 1)).hp stN.nx = _ := hh2
            have e3 : (stN.new (.arr e u x 1)).hp stN.nx = .arr e u x 1 := upd_same _ _ _
            rw [e3] at hh2'
            cases hh2'; rfl
          · omega
      · cases hs
    · cases hs
  | m m k vt =>
    intro t' av cs x stN pvN blN hr hs hN hT hnd hfz
    cases av <;> simp only [readSh] at hs <;> first | cases hs | skip
    rename_i o
    split at hs
    · rename_i m' k' v' l hh
      split at hs
      · rename_i he
        obtain rfl := Nat.eq_of_beq_eq_true he
        obtain ⟨e1, e2⟩ := cast_some hs
        injection e1 with e1 e1'
        subst e1
        subst e1'
        have e2' : x = l := e2
        cases hr with
        | @ref _ _ v h1 h2 h3 h4 =>
          have hv : v = pv o := h2.2 _ _ _ _ _ hh
          have hob : RepOb (cx P E st w Z pv bl) o (.map m k' v' l false) := hh ▸ h.obs o h2.1
          rcases hob.2 with ⟨_, b, es, clk, d1, d2, d3, d4⟩ | ⟨q, _⟩
          · have hnew := h.take hN (o := o) (ob := .map m k' v' x false) (vn := pv o) hT ⟨hob.1, .inl ⟨rfl, b, es, clk, (upd_same _ _ _).trans d1, (upd_same _ _ _).trans d2, d3, by
              rw [e2']; exact entriesR.imp (RepV.monoF hz (Agree.refl _ _)) (RepV.monoF hz (Agree.refl _ _)) d4⟩⟩
            refine ⟨_, _, hnew, hN.extNew _ _ _, ?_, grows_take, fun q => by cases q⟩
            refine .ref rfl ⟨Nat.lt_succ_self _, fun _ _ _ _ _ _ => hv.trans (upd_same _ _ _).symm⟩ (fun m2 k2 x2 l2 r2 hh2 => ?_) rfl
            have hh2' : (stN.new (.map m k' v' x false)).hp stN.nx = _ := hh2
            have e3 : (stN.new (.map m k' v' x false)).hp stN.nx = .map m k' v' x false := upd_same _ _ _
            rw [e3] at hh2'
            cases hh2'; rfl
          · cases q
      · cases hs
    · cases hs
  | bx e s ih =>
    intro t' av cs x stN pvN blN hr hs hN hT hnd hfz
    cases av <;> try (simp only [readSh] at hs; cases hs; done)
    rename_i o pth
    cases pth with
    | cons => simp only [readSh] at hs; cases hs
    | nil =>
      simp only [readSh] at hs
      split at hs
      · rename_i e' bv hh
        split at hs
        · rename_i he
          obtain rfl := Nat.eq_of_beq_eq_true he
          split at hs
          · rename_i hty
            cases hr with
            | @ref _ _ v h1 h2 h3 h4 =>
              obtain ⟨b, t0, off, g1, g2, g3, g4⟩ := h2.2 e bv hh
              obtain rfl : off = 0 := by cases t0 <;> simpa [offT] using g3.symm
              have hob : RepOb (cx P E st w Z pv bl) o (.box e bv) := hh ▸ h.obs o h2.1
              obtain ⟨t2, b2, bcs, r1, r2, r3, r4⟩ := hob
              obtain rfl : b = b2 := Option.some.inj (g1.symm.trans r2)
              have eo : ownSh st (.bx e s) (.ptr o []) = o :: ownSh st s bv := by simp only [ownSh, hh]
              have ef : fzSh st (.bx e s) (.ptr o []) = fzSh st s bv := by simp only [fzSh, hh]
              rw [eo] at hT hnd ⊢
              rw [ef] at hfz
              have hnd' := List.nodup_cons.1 hnd
              obtain ⟨pv1, bl1, a1, a2, a3, a4, _⟩ := ih t2 bv bcs.toList x stN pvN blN r4 hs hN (fun y hy => hT y (List.mem_cons_of_mem _ hy)) hnd'.2 hfz
              have hT1 : Takes bl Z' bl1 [o] := fun y hy b' hb' => by
                obtain rfl := List.mem_singleton.1 hy
                obtain ⟨t1, t2⟩ := hT y (List.mem_cons_self ..) b' hb'
                refine ⟨t1, fun o' q => ?_⟩
                rcases a4 o' b' q with ⟨o2, q⟩ | ⟨o2, q, q2⟩
                · exact t2 o2 q
                · exact hnd'.1 (h.inj o2 y b' q2 hb' ▸ q)
              have hE := eTy_some hty
              have hnew := h.take a1 (o := o) (ob := .box e (buildSh s x stN).1) (vn := undef) hT1 ⟨s.ty, b, bcs, hE, (upd_same _ _ _).trans g1, r3, a3.ext (a1.extNew _ _ _)⟩
              refine ⟨_, _, hnew, a2.trans (a1.extNew _ _ _), ?_, ?_, fun q => by cases q⟩
              · have hrf : refV (cx P E ((buildSh s x stN).2.new (.box e (buildSh s x stN).1)) w Z' (upd pv1 (buildSh s x stN).2.nx undef) (upd bl1 (buildSh s x stN).2.nx (bl o))) (.ptr (buildSh s x stN).2.nx []) v := by
                  refine ⟨Nat.lt_succ_self _, fun e2 x2 hh2 => ?_⟩
                  have hh2' : ((buildSh s x stN).2.new (.box e (buildSh s x stN).1)).hp (buildSh s x stN).2.nx = _ := hh2
                  have e3 : ((buildSh s x stN).2.new (.box e (buildSh s x stN).1)).hp (buildSh s x stN).2.nx = .box e (buildSh s x stN).1 := upd_same _ _ _
                  rw [e3] at hh2'
                  cases hh2'
                  exact ⟨b, s.ty, 0, (upd_same _ _ _).trans g1, hE, by cases s.ty <;> rfl, g4⟩
                refine .ref rfl hrf (fun e2 x2 hh2 => ?_) rfl
                have hh2' : ((buildSh s x stN).2.new (.box e (buildSh s x stN).1)).hp (buildSh s x stN).2.nx = _ := hh2
                have e3 : ((buildSh s x stN).2.new (.box e (buildSh s x stN).1)).hp (buildSh s x stN).2.nx = .box e (buildSh s x stN).1 := upd_same _ _ _
                rw [e3] at hh2'
                cases hh2'
                exact ⟨_, hE, rfl⟩
              · intro o' b' q
                rcases grows_take (bl := bl) (blN := bl1) (o := o) o' b' q with ⟨o2, q⟩ | ⟨o2, q, q2⟩
                · rcases a4 o2 b' q with q | ⟨o3, q, q2⟩
                  · exact .inl q
                  · exact .inr ⟨o3, List.mem_cons_of_mem _ q, q2⟩
                · obtain rfl := List.mem_singleton.1 q
                  exact .inr ⟨o2, List.mem_cons_self .., q2⟩
          · cases hs
        · cases hs
      · cases hs
  | al j => intro t' av cs x stN pvN blN hr hs; cases av <;> cases hs
  | un =>
    intro t' av cs x stN pvN blN hr hs hN hT hnd hfz
    cases av <;> try (simp only [readSh] at hs; cases hs; done)
    rename_i fs
    cases fs with
    | cons => simp only [readSh] at hs; cases hs
    | nil =>
      cases hr with
      | ref a _ _ _ => simp [AV.one] at a
      | un => exact ⟨pvN, blN, hN, Ext.refl _, .un, Grows.refl, fun _ => ⟨[], rfl⟩⟩
  | pr s1 s2 ih1 ih2 =>
    intro t' av cs x stN pvN blN hr hs hN hT hnd hfz
    cases av <;> try (simp only [readSh] at hs; cases hs; done)
    rename_i fs
    cases fs with
    | nil => simp only [readSh] at hs; cases hs
    | cons v fs =>
      simp only [readSh] at hs
      split at hs
      · rename_i hag
        split at hs
        · rename_i x1 hx1
          split at hs
          · rename_i x2 hx2
            obtain rfl := Option.some.inj hs
            cases hr with
            | ref a _ _ _ => simp [AV.one] at a
            | @pr t1 t2 _ _ c1 c2 g1 g2 =>
              have eo : ownSh st (.pr s1 s2) (.agg (v :: fs)) = ownSh st s1 v ++ ownSh st s2 (.agg fs) := rfl
              have ef : fzSh st (.pr s1 s2) (.agg (v :: fs)) = fzSh st s1 v ++ fzSh st s2 (.agg fs) := rfl
              rw [eo] at hT hnd ⊢
              rw [ef] at hfz
              have hnd' := List.nodup_append.1 hnd
              obtain ⟨pv1, bl1, a1, a2, a3, a4, _⟩ := ih1 t1 v c1 x1 stN pvN blN g1 hx1 hN hT.left hnd'.1 (fun y hy => hfz y (List.mem_append_left _ hy))
              obtain ⟨pv2, bl2, b1, b2, b3, b4, b5⟩ := ih2 t2 (.agg fs) c2 x2 _ pv1 bl1 g2 hx2 a1 (hT.after h a4 (fun y hy q => hnd'.2.2 y hy y q rfl)) hnd'.2.1 (fun y hy => hfz y (List.mem_append_right _ hy))
              obtain ⟨vs, hvs⟩ := b5 hag
              have e : (buildSh (.pr s1 s2) (x1, x2) stN).1 = .agg ((buildSh s1 x1 stN).1 :: vs) := by simp only [buildSh, hvs]
              refine ⟨pv2, bl2, b1, a2.trans b2, ?_, a4.trans b4, fun _ => ⟨_, e⟩⟩
              rw [e]
              rw [hvs] at b3
              exact .pr (a3.ext b2) b3
          · cases hs
        · cases hs
      · cases hs
end
end Ev
/- Code (2): cuts; code. -/
namespace Ev
open Go
section
variable {P : Program} {E : Env} {st : St} {a : Act} {w : World} {Z : Zn} {pv : Nat → Value} {bl : Nat → Option Nat} {R : Type} {r : R}

theorem build_slot (hO : ∀ g o, E.orc g = some o → Contract P g o) (h : Sim P E st a w Z pv bl) {Z' : Zn} (hz : Zle Z Z') (s : Sh) (av : AV) (v : Value) (x : s.in) (stN : St) (pvN : Nat → Value) (blN : Nat → Option Nat)
    (hv : RAV (cx P E st w Z pv bl) av v) (hs : readSh E st s av = some x) (hN : Sim P E stN a w Z' pvN blN) (hT : Takes bl Z' blN (ownSh st s av)) (hnd : (ownSh st s av).Nodup) (hfz : ∀ y ∈ fzSh st s av, ∀ b, bl y = some b → Z' b) :
    ∃ pvN' blN', Sim P E (buildSh s x stN).2 a w Z' pvN' blN' ∧ RAV (cx P E (buildSh s x stN).2 w Z' pvN' blN') (buildSh s x stN).1 v ∧ Grows bl blN blN' (ownSh st s av) := by
  have ref1 : ∀ (t' : T), RA (cx P E st w Z pv bl) t' av [v] → s.ty.isAgg = false → ∃ pvN' blN', Sim P E (buildSh s x stN).2 a w Z' pvN' blN' ∧ RAV (cx P E (buildSh s x stN).2 w Z' pvN' blN') (buildSh s x stN).1 v ∧ Grows bl blN blN' (ownSh st s av) := by
    intro t' hr hag
    obtain ⟨pv1, bl1, a1, _, a3, a4, _⟩ := build_sound hO h hz s t' av [v] x stN pvN blN hr hs hN hT hnd hfz
    have := a3.toV
    unfold ofCells at this
    rw [if_neg (by rw [hag]; simp)] at this
    exact ⟨pv1, bl1, a1, this, a4⟩
  have agg1 : ∀ fs, av = .agg fs → s.ty.isAgg = true → s.agg = true → ∃ pvN' blN', Sim P E (buildSh s x stN).2 a w Z' pvN' blN' ∧ RAV (cx P E (buildSh s x stN).2 w Z' pvN' blN') (buildSh s x stN).1 v ∧ Grows bl blN blN' (ownSh st s av) := by
    intro fs e hag hsa
    subst e
    cases hv with
    | ref q _ => simp [AV.one] at q
    | @agg _ cs t' _ hr =>
      obtain ⟨pv1, bl1, a1, _, a3, a4, a5⟩ := build_sound hO h hz s t' (.agg fs) cs.toList x stN pvN blN hr hs hN hT hnd hfz
      obtain ⟨vs, hvs⟩ := a5 hsa
      rw [hvs] at a3
      exact ⟨pv1, bl1, a1, by rw [hvs]; exact .agg s.ty hag a3, a4⟩
  cases s with
  | v t =>
    have hs' : sn E st t av = some x := by cases av <;> exact hs
    have hrep := sn_sound hO h hv hs'
    have e1 : fzSh st (.v t) av = tch st av := by cases av <;> rfl
    rw [e1] at hfz
    have hz2 : Zle (Zt Z bl (tch st av)) Z' := fun b hb => by
      rcases hb with q | ⟨o, ho, q⟩
      · exact hz b q
      · exact hfz o ho b q
    exact ⟨pvN, blN, hN, .val (hrep.mono hz2 (Agree.refl _ _)), Grows.refl⟩
  | o e t =>
    cases av <;> try (simp only [readSh] at hs; cases hs; done)
    rename_i o
    have hs2 := hs
    simp only [readSh] at hs2
    split at hs2
    · rename_i e' u l hh
      exact ref1 (.sl u) (.ref rfl (hv.ref_inv rfl) (fun e2 u2 l2 k2 hh2 => by have hh2 : st.hp o = _ := hh2; rw [hh] at hh2; cases hh2; rfl) rfl) rfl
    · cases hs2
  | w e t =>
    cases av <;> try (simp only [readSh] at hs; cases hs; done)
    rename_i o
    have hs2 := hs
    simp only [readSh] at hs2
    split at hs2
    · rename_i e' u l kk hh
      exact ref1 (.sl u) (.ref rfl (hv.ref_inv rfl) (fun e2 u2 l2 k2 hh2 => by have hh2 : st.hp o = _ := hh2; rw [hh] at hh2; cases hh2; rfl) rfl) rfl
    · cases hs2
  | m m k vt =>
    cases av <;> try (simp only [readSh] at hs; cases hs; done)
    rename_i o
    have hs2 := hs
    simp only [readSh] at hs2
    split at hs2
    · rename_i m' k' v' l hh
      exact ref1 (.mp k' v') (.ref rfl (hv.ref_inv rfl) (fun e2 u2 l2 k2 q2 hh2 => by have hh2 : st.hp o = _ := hh2; rw [hh] at hh2; cases hh2; rfl) rfl) rfl
    · cases hs2
  | bx e s =>
    cases av <;> try (simp only [readSh] at hs; cases hs; done)
    rename_i o pth
    cases pth with
    | cons => simp only [readSh] at hs; cases hs
    | nil =>
      have hs2 := hs
      simp only [readSh] at hs2
      split at hs2
      · rename_i e' bv hh
        have hrf := hv.ref_inv rfl
        obtain ⟨b, t0, off, g1, g2, g3, g4⟩ := hrf.2 e' bv hh
        exact ref1 (.pt t0) (.ref rfl hrf (fun e2 x2 hh2 => by have hh2 : st.hp o = _ := hh2; rw [hh] at hh2; cases hh2; exact ⟨t0, g2, rfl⟩) rfl) rfl
      · cases hs2
  | al j => cases av <;> cases hs
  | un =>
    cases av <;> try (simp only [readSh] at hs; cases hs; done)
    exact agg1 _ rfl rfl rfl
  | pr s1 s2 =>
    cases av <;> try (simp only [readSh] at hs; cases hs; done)
    exact agg1 _ rfl rfl rfl
def ownL (st : St) (l : List (Nat × Sh)) : List Nat := l.flatMap fun p => ownSh st p.2 (st.sl p.1)
def fzL (st : St) (l : List (Nat × Sh)) : List Nat := l.flatMap fun p => fzSh st p.2 (st.sl p.1)
theorem build_top (hO : ∀ g o, E.orc g = some o → Contract P g o) (h : Sim P E st a w Z pv bl) {Z' : Zn} (hz : Zle Z Z') (i : Nat) (s : Sh) (x : s.in) (stN : St) (pvN : Nat → Value) (blN : Nat → Option Nat)
    (hs : readTop E st i s = some x) (hN : Sim P E stN a w Z' pvN blN) (hT : Takes bl Z' blN (ownSh st s (st.sl i))) (hnd : (ownSh st s (st.sl i)).Nodup) (hfz : ∀ y ∈ fzSh st s (st.sl i), ∀ b, bl y = some b → Z' b) :
    ∃ pvN' blN', Sim P E (buildTop s x stN).2 a w Z' pvN' blN' ∧ RAV (cx P E (buildTop s x stN).2 w Z' pvN' blN') (buildTop s x stN).1 (a.tmps.getD i undef) ∧ Grows bl blN blN' (ownSh st s (st.sl i)) := by
  cases s with
  | al j =>
    simp only [readTop] at hs
    split at hs
    · rename_i ha
      refine ⟨pvN, blN, hN, ?_, Grows.refl⟩
      have hj := hN.slot j
      have e : a.tmps.getD i undef = a.tmps.getD j undef := by
        unfold alB at ha
        split at ha
        · rename_i o o' h1 h2
          split at ha
          · rename_i e u l k hh
            obtain rfl := Nat.eq_of_beq_eq_true ha
            have q1 := h.slot i
            have q2 := h.slot j
            rw [h1] at q1
            rw [h2] at q2
            exact ((q1.ref_inv rfl).2 _ _ _ _ hh).trans ((q2.ref_inv rfl).2 _ _ _ _ hh).symm
          · cases ha
        · cases ha
      rw [e]; exact hj
    · cases hs
  | v t => exact build_slot hO h hz (.v t) _ _ x stN pvN blN (h.slot i) hs hN hT hnd hfz
  | o e t => exact build_slot hO h hz (.o e t) _ _ x stN pvN blN (h.slot i) hs hN hT hnd hfz
  | w e t => exact build_slot hO h hz (.w e t) _ _ x stN pvN blN (h.slot i) hs hN hT hnd hfz
  | m m k v => exact build_slot hO h hz (.m m k v) _ _ x stN pvN blN (h.slot i) hs hN hT hnd hfz
  | bx e s => exact build_slot hO h hz (.bx e s) _ _ x stN pvN blN (h.slot i) hs hN hT hnd hfz
  | un => exact build_slot hO h hz .un _ _ x stN pvN blN (h.slot i) hs hN hT hnd hfz
  | pr p q => exact build_slot hO h hz (.pr p q) _ _ x stN pvN blN (h.slot i) hs hN hT hnd hfz
theorem buildAll_sound (hO : ∀ g o, E.orc g = some o → Contract P g o) (h : Sim P E st a w Z pv bl) {Z' : Zn} (hz : Zle Z Z') : ∀ (l : List (Nat × Sh)) (d : SIn l) (stN : St) (pvN : Nat → Value) (blN : Nat → Option Nat),
    readAll E st l = some d → Sim P E stN a w Z' pvN blN → Takes bl Z' blN (ownL st l) → (ownL st l).Nodup → (∀ y ∈ fzL st l, ∀ b, bl y = some b → Z' b) →
    ∃ pvN' blN', Sim P E (buildAll l d stN) a w Z' pvN' blN' ∧ Grows bl blN blN' (ownL st l) := by
  intro l
  induction l with
  | nil => intro d stN pvN blN _ hN _ _ _; exact ⟨pvN, blN, hN, Grows.refl⟩
  | cons p l ih =>
    intro d stN pvN blN hs hN hT hnd hfz
    simp only [readAll] at hs
    split at hs
    · rename_i x hx
      split at hs
      · rename_i y hy
        obtain rfl := Option.some.inj hs
        have eo : ownL st (p :: l) = ownSh st p.2 (st.sl p.1) ++ ownL st l := rfl
        have ef : fzL st (p :: l) = fzSh st p.2 (st.sl p.1) ++ fzL st l := rfl
        rw [eo] at hT hnd ⊢
        rw [ef] at hfz
        have hnd' := List.nodup_append.1 hnd
        obtain ⟨pv1, bl1, a1, a2, a3⟩ := build_top hO h hz p.1 p.2 x stN pvN blN hx hN hT.left hnd'.1 (fun y hy => hfz y (List.mem_append_left _ hy))
        have hput := a1.putBack (d := p.1) a2 (fun hd => by rw [Array.getD_eq_getD_getElem?, Array.getElem?_eq_getElem hd]; rfl)
        obtain ⟨pv2, bl2, b1, b2⟩ := ih y _ pv1 bl1 hy hput (hT.after h a3 (fun y hy q => hnd'.2.2 y hy y q rfl)) hnd'.2.1 (fun y hy => hfz y (List.mem_append_right _ hy))
        exact ⟨pv2, bl2, b1, a3.trans b2⟩
      · cases hs
    · cases hs
theorem canon_sound (hO : ∀ g o, E.orc g = some o → Contract P g o) (h : Sim P E st a w Z pv bl) {l : List (Nat × Sh)} {K : SIn l → Option R} (he : canon E l st K = some r) :
    ∃ d Z' pv' bl', K d = some r ∧ Sim P E (mkSt E l d) a w Z' pv' bl' ∧ Tr w Z bl w Z' bl' := by
  have he : (if (Nat.beq st.n E.nt && (nodupB (ownL st l) && apartB (ownL st l) (fzL st l))) = true then (match readAll E st l with
    | some d => K d
    | none => none) else none) = some r := he
  split at he
  · rename_i hc
    simp only [Bool.and_eq_true] at hc
    obtain ⟨hn, hnd, hap⟩ := hc
    split at he
    · rename_i d hd
      have hn' := Nat.eq_of_beq_eq_true hn
      have hnd' : (ownL st l).Nodup := nodupB_nodup hnd
      have hap' : ∀ x ∈ ownL st l, x ∉ fzL st l := apartB_apart hap
      have hzok : ZOK (Zt Z bl (fzL st l)) w := (h.ro (fzL st l)).zok
      have h0 : Sim P E (St.empty E.nt) a w (Zt Z bl (fzL st l)) (fun _ => undef) (fun _ => none) := by
        refine ⟨hn'.symm.trans h.n, h.defers, fun _ _ => rfl, fun _ _ => .dead, fun o ho => ?_, fun _ _ => ⟨rfl, rfl⟩, fun _ _ _ q => (by cases q), fun _ _ q => (by cases q), hzok⟩
        exact absurd ho (Nat.not_lt_zero o)
      obtain ⟨pv', bl', q1, q2⟩ := buildAll_sound hO h (Zt.le Z bl (fzL st l)) l d (St.empty E.nt) _ _ hd h0 (fun o ho b hb => ⟨fun q => by
          rcases q with q | ⟨o', ho', q⟩
          · exact (h.own o b hb).1 q
          · exact hap' o ho (h.inj o' o b q hb ▸ ho'), fun o' q => by cases q⟩) hnd' (fun y hy b hb => .inr ⟨y, hy, hb⟩)
      refine ⟨d, _, pv', bl', he, q1, ⟨rfl, rfl, rfl, Nat.le_refl _, fun _ _ _ => rfl, Zt.le _ _ _, fun b hb => hb.imp id (fun ⟨o, _, q⟩ => .inl ⟨o, q⟩), fun o b hb => ?_⟩⟩
      rcases q2 o b hb with ⟨_, q⟩ | ⟨o', _, q⟩
      · cases q
      · exact .inl ⟨o', q⟩
    · cases he
  · cases he
end
end Ev
/- Slots that no operation writes. -/
namespace Ev
open Go
section
variable {P : Program}
/-- Some slots hold what they held. -/
def Keep' (fix : List Nat) (a a' : Act) : Prop := ∀ i ∈ fix, a'.tmps[i]? = a.tmps[i]?
def noWrOp (fix : List Nat) (o : Oper) : Bool :=
  match o.dst with
  | some d => fix.all fun x => !(Nat.beq x d)
  | none => true
def noWr (fix : List Nat) : Code → Bool
  | .region _ ops _ => ops.toList.all (noWrOp fix)
  | .seq a b => noWr fix a && noWr fix b
  | .cond _ a b => noWr fix a && noWr fix b
  | .block _ c => noWr fix c
  | .loop c => noWr fix c
  | _ => true
theorem noWr_spec {fix : List Nat} {id : Nat} {ops : Array Oper} {b : Bool} (h : noWr fix (.region id ops b) = true) : ∀ (i : Nat) (o : Oper), ops[i]? = some o → ∀ d, o.dst = some d → d ∉ fix := by
  intro i o ho d hd q
  have h1 := List.all_eq_true.1 h o (by rw [← Array.getElem?_toList] at ho; exact List.mem_of_getElem? ho)
  unfold noWrOp at h1
  rw [hd] at h1
  have h2 := List.all_eq_true.1 h1 d q
  simp at h2
theorem Keep'.put {fix : List Nat} {a0 a : Act} (h : Keep' fix a0 a) {dst : Option Nat} (hd : ∀ d, dst = some d → d ∉ fix) (v : Value) : Keep' fix a0 (a.put dst v) := by
  intro i hi
  cases dst with
  | none => exact h i hi
  | some d =>
    have hne : (some d : Option Nat) ≠ some i := fun e => hd d rfl (by injection e with e; exact e ▸ hi)
    rw [(put_tmps_ne hne).1]
    exact h i hi
/-- What holds at an end, and the kept slots. -/
def Qk (fix : List Nat) (a0 : Act) (Q : Exit → Act → World → Prop) : Exit → Act → World → Prop := fun e a w => Q e a w ∧ (e ≠ .outgrown → Keep' fix a0 a)
theorem Qk.out {fix : List Nat} {a0 : Act} {Q : Exit → Act → World → Prop} (h : LetsOut Q) : LetsOut (Qk fix a0 Q) := by
  obtain ⟨a, w, h⟩ := h
  exact ⟨a, w, h, fun q => absurd rfl q⟩
theorem oper_keep {fix : List Nat} {o : Oper} (hd : ∀ d, o.dst = some d → d ∉ fix) {a0 a : Act} {w : World} {K K' : Act → World → Prop} {Q : Exit → Act → World → Prop} (hk : Keep' fix a0 a) (hK : ∀ a' w', Keep' fix a0 a' → K a' w' → K' a' w') (h : o.wp P a w K Q) : o.wp P a w K' (Qk fix a0 Q) := by
  unfold Oper.wp at *
  generalize (execOp a.eval o).run P w = r at *
  cases r with
  | ok n w' =>
    cases n <;> simp only [Oper.upon] at h ⊢
    all_goals first
      | exact hK _ _ (hk.put hd _) h
      | exact hK _ _ (Keep'.put (a := { a with defers := _ :: a.defers }) hk hd _) h
      | exact Calls.mono h (fun e w'' he => by
          cases e with
          | returned v => exact hK _ _ (hk.put hd _) he
          | panicked c => exact ⟨he, fun _ => hk⟩
          | outgrown => exact Qk.out he)
      | exact Rows.mono h (fun v w'' he => hK _ _ (hk.put hd _) he)
  | halt x w' =>
    cases x <;> simp only [Oper.upon] at h ⊢
    all_goals exact ⟨h, fun _ => hk⟩
theorem wpOp_keep {fix : List Nat} {ops : Array Oper} (hd : ∀ (i : Nat) (o : Oper), ops[i]? = some o → ∀ d, o.dst = some d → d ∉ fix) {i : Nat} {a0 a : Act} {w : World} {K K' : Act → World → Prop} {Q : Exit → Act → World → Prop} (hk : Keep' fix a0 a) (hK : ∀ a' w', Keep' fix a0 a' → K a' w' → K' a' w') (h : wpOp P ops Q i K a w) : wpOp P ops (Qk fix a0 Q) i K' a w := by
  unfold wpOp at *
  cases ho : ops[i]? with
  | none =>
    rw [ho] at h
    exact hK _ _ hk h
  | some o =>
    rw [ho] at h
    simp only [] at h ⊢
    split
    · rename_i hw
      rw [if_pos hw] at h
      rcases h with h | h
      · exact .inl (oper_keep (hd i o ho) hk hK h)
      · exact .inr ⟨h.1, Qk.out h.2⟩
    · rename_i hw
      rw [if_neg hw] at h
      exact hK _ _ (hk.put (hd i o ho) _) h
theorem wpOps_keep {fix : List Nat} {ops : Array Oper} (hd : ∀ (i : Nat) (o : Oper), ops[i]? = some o → ∀ d, o.dst = some d → d ∉ fix) {a0 : Act} {Q : Exit → Act → World → Prop} : ∀ (l : List Nat) (a : Act) (w : World), Keep' fix a0 a → wpOps P ops Q l a w → wpOps P ops (Qk fix a0 Q) l a w
  | [], _, _, hk, h => ⟨h, fun _ => hk⟩
  | i :: l, a, w, hk, h => by
    rw [wpOps_cons] at h ⊢
    exact wpOp_keep hd hk (fun a' w' hk' h' => wpOps_keep hd l a' w' hk' h') h
theorem wpAny_keep {fix : List Nat} {ops : Array Oper} (hd : ∀ (i : Nat) (o : Oper), ops[i]? = some o → ∀ d, o.dst = some d → d ∉ fix) {a0 : Act} {Q : Exit → Act → World → Prop} : ∀ (fuel : Nat) (listed : Array Bool) (a : Act) (w : World), Keep' fix a0 a → wpAny P .any ops Q fuel listed a w → wpAny P .any ops (Qk fix a0 Q) fuel listed a w
  | 0, _, _, _, hk, h => ⟨h.1, h.2, fun _ => hk⟩
  | fuel + 1, listed, a, w, hk, h => ⟨fun q => ⟨h.1 q, fun _ => hk⟩, fun i hi => wpOp_keep hd hk (fun a' w' hk' h' => wpAny_keep hd fuel _ a' w' hk' h') (h.2 i hi)⟩
theorem region_keep {fix : List Nat} {id : Nat} {ops : Array Oper} (hn : noWr fix (.region id ops false) = true) {a0 a : Act} {w : World} {Q : Exit → Act → World → Prop} (hk : Keep' fix a0 a) (h : wpOps P ops Q (List.range ops.size) a w) : (Code.region id ops false).wp P (Qk fix a0 Q) a w :=
  wp_region (wpOps_keep (noWr_spec hn) _ _ _ hk h)
end
end Ev
/- Code (3): the evaluator's word on code. -/
namespace Ev
open Go
section
variable {P : Program} {E : Env} {R : Type} {r : R}

theorem least {p : Nat → Prop} (h : ∃ n, p n) : ∃ n, p n ∧ ∀ m, m < n → ¬ p m := by
  obtain ⟨n, hn⟩ := h
  induction n using Nat.strongRecOn with
  | _ n ih =>
    by_cases hh : ∃ m, m < n ∧ p m
    · obtain ⟨m, h1, h2⟩ := hh
      exact ih m h1 h2
    · exact ⟨n, hn, fun m hm q => hh ⟨m, hm, q⟩⟩
theorem post_mono {w0 : World} {Z0 : Zn} {bl0 : Nat → Option Nat} {K : Exit → St → Option R} {Q : Exit → Act → World → Prop} {c : Code} {a : Act} {w : World} {fix : List Nat} {a0 : Act} (h : c.wp P (Qk fix a0 (Post P E w0 Z0 bl0 K r)) a w) (hq : ∀ e a w, Qk fix a0 (Post P E w0 Z0 bl0 K r) e a w → Q e a w) : c.wp P Q a w :=
  wp_mono h hq
theorem code_sound (ty : TyOK P E) (hO : ∀ g o, E.orc g = some o → Contract P g o) {w0 : World} {Z0 : Zn} {bl0 : Nat → Option Nat} {fix : List Nat} {a0 : Act} : ∀ (c : Code) (K : Kn R) (st : St) (a : Act) (w : World) (Z : Zn) (pv : Nat → Value) (bl : Nat → Option Nat),
    planOk E c = true → noWr fix c = true → Keep' fix a0 a → Sim P E st a w Z pv bl → Tr w0 Z0 bl0 w Z bl → ev E c st K = some r → c.wp P (Qk fix a0 (Post P E w0 Z0 bl0 K r)) a w := by
  intro c
  induction c with
  | skip => intro K st a w Z pv bl _ _ kp h ht he; exact wp_skip ⟨⟨fun _ q => (by cases q), st, Z, pv, bl, h, ht, he⟩, fun _ => kp⟩
  | exit id => intro K st a w Z pv bl _ _ kp h ht he; exact wp_exit ⟨⟨fun _ q => (by cases q), st, Z, pv, bl, h, ht, he⟩, fun _ => kp⟩
  | ret => intro K st a w Z pv bl _ _ kp h ht he; exact wp_ret ⟨⟨fun _ q => (by cases q), st, Z, pv, bl, h, ht, he⟩, fun _ => kp⟩
  | region id ops draw =>
    intro K st a w Z pv bl hp hn kp h ht he
    simp only [ev, evRegion] at he
    cases draw with
    | false => exact region_keep hn kp (region_plain_ops ty hO h ht he)
    | true =>
      simp only [if_true] at he
      split at he
      · rename_i steps hs
        simp only [planOk, hs] at hp
        exact wp_region_any ty.mixed (wpAny_keep (noWr_spec hn) _ _ _ _ kp (region_draw_any ty hO h ht hp he))
      · cases he
  | seq x y ihx ihy =>
    intro K st a w Z pv bl hp hn kp h ht he
    simp only [planOk, Bool.and_eq_true] at hp
    simp only [noWr, Bool.and_eq_true] at hn
    simp only [ev] at he
    refine wp_seq (post_mono (ihx _ st a w Z pv bl hp.1 hn.1 kp h ht he) fun e a1 w1 hq => ?_)
    obtain ⟨⟨hnp, st1, Z1, pv1, bl1, h1, ht1, he1⟩, kp1⟩ := hq
    cases e with
    | normal =>
      show y.wp P _ a1 w1
      unfold seqK at he1
      cases hct : E.ct (firstReg y) with
      | none =>
        rw [hct] at he1
        exact ihy K st1 a1 w1 Z1 pv1 bl1 hp.2 hn.2 (kp1 (by simp)) h1 ht1 he1
      | some l =>
        rw [hct] at he1
        obtain ⟨d, Z2, pv2, bl2, hk, h2, ht2⟩ := canon_sound hO h1 he1
        obtain ⟨m, hm⟩ : ∃ m, E.rounds = m + 1 := by
          cases hr : E.rounds with
          | zero => rw [hr] at hk; cases hk
          | succ m => exact ⟨m, rfl⟩
        rw [hm] at hk
        exact ihy K _ a1 w1 Z2 pv2 bl2 hp.2 hn.2 (kp1 (by simp)) h2 (ht1.trans ht2) hk
    | panic c => exact absurd rfl (hnp c)
    | _ => exact ⟨⟨hnp, st1, Z1, pv1, bl1, h1, ht1, he1⟩, kp1⟩
  | cond c x y ihx ihy =>
    intro K st a w Z pv bl hp hn kp h ht he
    simp only [planOk, Bool.and_eq_true] at hp
    simp only [noWr, Bool.and_eq_true] at hn
    simp only [ev] at he
    split at he
    · rename_i t
      obtain ⟨b, hb, hk⟩ := dec_some he
      have hbt := h.bool hb
      have hev : a.eval (.tmp t) = .bool b := by
        show a.tmps.getD t undef = _
        rw [Array.getD_eq_getD_getElem?, hbt]; rfl
      have h1 := h.putBack (d := t) (av := .val .b b) (v := .bool b) (.val RepV.bool) (fun _ => hbt)
      refine wp_cond hev ?_
      cases b with
      | true =>
        rw [if_pos rfl] at hk ⊢
        exact ihx K _ a w Z pv bl hp.1 hn.1 kp h1 ht hk
      | false =>
        rw [if_neg (by simp)] at hk ⊢
        exact ihy K _ a w Z pv bl hp.2 hn.2 kp h1 ht hk
    · cases he
  | block id c ih =>
    intro K st a w Z pv bl hp hn kp h ht he
    simp only [planOk] at hp
    simp only [noWr] at hn
    simp only [ev] at he
    refine wp_block (post_mono (ih _ st a w Z pv bl hp hn kp h ht he) fun e a1 w1 hq => ?_)
    obtain ⟨⟨hnp, st1, Z1, pv1, bl1, h1, ht1, he1⟩, kp1⟩ := hq
    cases e with
    | exit id' =>
      unfold blockK at he1
      show (if id' = id then _ else _)
      split
      · rename_i hid
        subst hid
        simp only [Nat.beq_refl, if_true] at he1
        exact ⟨⟨fun _ q => (by cases q), st1, Z1, pv1, bl1, h1, ht1, he1⟩, fun _ => kp1 (by simp)⟩
      · rename_i hid
        have : Nat.beq id' id = false := by
          cases q : Nat.beq id' id with
          | false => rfl
          | true => exact absurd (Nat.eq_of_beq_eq_true q) hid
        simp only [this] at he1
        exact ⟨⟨fun _ q => (by cases q), st1, Z1, pv1, bl1, h1, ht1, he1⟩, fun _ => kp1 (by simp)⟩
    | panic c => exact absurd rfl (hnp c)
    | _ => exact ⟨⟨hnp, st1, Z1, pv1, bl1, h1, ht1, he1⟩, kp1⟩
  | loop c ih =>
    intro K st a w Z pv bl hp hn kp h ht he
    simp only [planOk] at hp
    simp only [noWr] at hn
    simp only [ev] at he
    split at he
    · rename_i l hl
      obtain ⟨d, Z1, pv1, bl1, hk, h1, ht1⟩ := canon_sound hO h he
      let J : Nat → Act → World → Prop := fun n a w => Keep' fix a0 a ∧ ∃ d Z pv bl, Sim P E (mkSt E l d) a w Z pv bl ∧ Tr w0 Z0 bl0 w Z bl ∧ loopF E l (ev E c) K n d = some r
      classical
      refine wp_loop (fun a w => ∃ n, J n a w) (fun a w => if hh : ∃ n, J n a w then Classical.choose (least hh) else 0) ⟨E.rounds, kp, d, Z1, pv1, bl1, h1, ht.trans ht1, hk⟩ fun a w hI => ?_
      have hspec := Classical.choose_spec (least hI)
      rw [dif_pos hI]
      generalize Classical.choose (least hI) = n at hspec ⊢
      obtain ⟨⟨kp, d, Z, pv, bl, hs, htr, hf⟩, _⟩ := hspec
      cases n with
      | zero => cases hf
      | succ n =>
        have hf' : ev E c (mkSt E l d) (loopK E l K (loopF E l (ev E c) K n)) = some r := hf
        refine post_mono (ih _ _ a w Z pv bl hp hn kp hs htr hf') fun e a1 w1 hq => ?_
        obtain ⟨⟨hnp, st1, Z1, pv1, bl1, h1, ht1, he1⟩, kp1⟩ := hq
        cases e with
        | normal =>
          have he1' : canon E l st1 (loopF E l (ev E c) K n) = some r := he1
          obtain ⟨d2, Z2, pv2, bl2, hk2, h2, ht2⟩ := canon_sound hO h1 he1'
          have hJ : J n a1 w1 := ⟨kp1 (by simp), d2, Z2, pv2, bl2, h2, ht1.trans ht2, hk2⟩
          have hI2 : ∃ n, J n a1 w1 := ⟨n, hJ⟩
          refine ⟨hI2, ?_⟩
          rw [dif_pos hI2]
          have hs2 := Classical.choose_spec (least hI2)
          rcases Nat.lt_or_ge n (Classical.choose (least hI2)) with q | q
          · exact absurd hJ (hs2.2 n q)
          · omega
        | panic c => exact absurd rfl (hnp c)
        | _ => exact ⟨⟨hnp, st1, Z1, pv1, bl1, h1, ht1, he1⟩, kp1⟩
    · cases he
  | _ => intro K st a w Z pv bl _ _ _ _ _ he; simp only [ev] at he; cases he
end
end Ev
