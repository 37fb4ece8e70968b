/- Lemmas and walks: Xt Xu Xv Xw Xx Xy Xz Ya Yb Yc Yd Ye Yf. No conditions. -/
import Derived.Test.YtagjgjhkdihodaaGreatJ5
import Derived.Test.YtagjgjhkdihodaaGreatJ2
import Derived.Laws.Strings
section
set_option linter.unusedVariables false
set_option linter.unusedSimpArgs false
set_option maxRecDepth 100000
set_option maxHeartbeats 8000000
namespace Go.Proofs.YtagjgjhkdihodaaGreat.Am
open Go Go.RowKit Go.Proofs
attribute [local go_sem_proc] Nat.reduceAdd Nat.reduceSub Nat.reduceMul Nat.reduceLT Nat.reduceLeDiff Nat.reduceEqDiff Int.reduceBEq Int.reduceBNe Int.reduceNeg Int.reduceSub Int.reduceLE Int.reduceLT
attribute [local go_sem_proc ↓] reduceIte
attribute [local congr] opsP_congr codeP_congr AWP_congr afterR_congr preP_congr afterPre_congr gPre_congr gOps_congr condP_congr stepE_congr
attribute [local go_sem] ty_int ty_bool ty_str ty_u8 ty_ints ty_bytes ty_page ty_pages ty_lpage ty_lpages ty_rec ty_recs ty_lrec ty_lrecs ty_eng ty_leng
attribute [local go_sem] true_and and_true beq_true' beq_false' toNat_cast Int.natCast_nonneg Bool.not_not Bool.not_true Bool.not_false decide_true decide_false Bool.or_false Bool.false_or Bool.or_true Bool.true_or Bool.and_false Bool.false_and Nat.zero_add Int.toNat_of_nonneg wrap_succ wrap_m1 wrap_nat succ_m1 cast0 succ_pos' succ_ne' succ_bne' ge_iff_le gt_iff_lt if_true if_false
section
attribute [local go_sem] slt_r slt_I slt_p
theorem fin_pg {k : Nat} {q : Pg} {S : Store} {mv : List Nat} {n : Nat} (h : getO S k = some ⟨1, q.vals.map I⟩) (hn : n = q.vals.length := by rfl) : Fin 0 (.agg [I q.lsn, I q.owner, .own k 1 0 n]) S mv (fun r S' mv => (r = dA ⟨0, q⟩ ∧ S' = [vO q]) ∧ mv = []) := by
  subst hn
  exact fin_keep [k] (by simp) rfl (keep1 h (a2_I _ _)) (.of _ _ (.agg _ _ (.cons _ _ _ _ (.same _ rfl) (.cons _ _ _ _ (.same _ rfl) (.cons _ _ _ _ (.own _ _ _ _ _ rfl) .nil))))) ⟨rfl, rfl⟩
theorem with_own (p : Pg) (r : Rc) (hp : p.vals.length = 3) (hr : r.slot ≤ 2) : Fn Tryz.prog 134 [pA p, rA r] (fun x S => x = dA ⟨0, doP p r p.lsn⟩ ∧ S = [vO (doP p r p.lsn)]) := by
  have hcp := copied_own p (by omega) (by omega)
  refine fn_of Tryz.func134 rfl rfl ?_
  by_cases h : 0 ≤ r.slot
  · have e : doP p r p.lsn = ⟨p.lsn, p.owner, p.vals.set r.slot.toNat r.new⟩ := by simp [doP, h]
    rw [e]
    simp -implicitDefEqProofs only [go_sem, Tryz.f134, h]
    (repeat' (first | ((with_reducible first | refine gon ?_ ?_ | refine gos ?_ ?_ | refine cdn ?_ ?_ | refine cds ?_ ?_ | refine gpn ?_ ?_ | refine gps ?_ ?_) <;> intro h <;> (try simp only [dt, df, gi, gt] at h) <;> try simp -implicitDefEqProofs only [go_sem, *]) | ((with_reducible refine And.intro ?_ ?_); (· first | omega | (simp only [List.length_take]; omega)); try simp -implicitDefEqProofs only [go_sem, *]) | ((with_reducible refine enter_fn (hcp) ?_ ?_); (· rfl); try simp -implicitDefEqProofs only [go_sem, *])))
    exact fin_pg (q := ⟨p.lsn, p.owner, p.vals.set r.slot.toNat r.new⟩) rfl (by simp [hp])
  · have e : doP p r p.lsn = ⟨p.lsn, r.new, if r.new = 0 then [0, 0, 0] else p.vals⟩ := by simp [doP, h]
    rw [e]
    by_cases hn : r.new = 0
    · rw [if_pos hn]
      simp -implicitDefEqProofs only [go_sem, Tryz.f134, h, hn]
      (repeat' (first | ((with_reducible first | refine gon ?_ ?_ | refine gos ?_ ?_ | refine cdn ?_ ?_ | refine cds ?_ ?_ | refine gpn ?_ ?_ | refine gps ?_ ?_) <;> intro h <;> (try simp only [dt, df, gi, gt] at h) <;> try simp -implicitDefEqProofs only [go_sem, *]) | ((with_reducible refine And.intro ?_ ?_); (· first | omega | (simp only [List.length_take]; omega)); try simp -implicitDefEqProofs only [go_sem, *]) | first | ((with_reducible refine enter_fn (hcp) ?_ ?_); (· rfl); try simp -implicitDefEqProofs only [go_sem, *]) | ((with_reducible refine cp_draw0 (id := 6) 5 mixed ?_ ?_); (· rfl); try simp -implicitDefEqProofs only [go_sem, List.append_nil, *]) | ((with_reducible refine exp_end ?_ ?_); (· decide +kernel); try simp -implicitDefEqProofs only [go_sem, *]) | ((with_reducible refine exp_one 0 ?_ ?_); (· decide +kernel); try simp -implicitDefEqProofs only [go_sem, *]) | ((with_reducible refine exp_one 1 ?_ ?_); (· decide +kernel); try simp -implicitDefEqProofs only [go_sem, *]) | ((with_reducible refine exp_one 2 ?_ ?_); (· decide +kernel); try simp -implicitDefEqProofs only [go_sem, *]) | ((with_reducible refine exp_one 3 ?_ ?_); (· decide +kernel); try simp -implicitDefEqProofs only [go_sem, *]) | ((with_reducible refine exp_one 4 ?_ ?_); (· decide +kernel); try simp -implicitDefEqProofs only [go_sem, *]) | ((with_reducible refine exp_two 0 1 ?_ ?_ ?_); (· decide +kernel); all_goals (try simp -implicitDefEqProofs only [go_sem, *])) | ((with_reducible refine exp_two 0 2 ?_ ?_ ?_); (· decide +kernel); all_goals (try simp -implicitDefEqProofs only [go_sem, *]))))
      all_goals exact fin_pg (q := ⟨p.lsn, 0, [0, 0, 0]⟩) rfl rfl
    · rw [if_neg hn]
      have hn' : (r.new == 0) = false := by simpa using hn
      clear hn
      simp -implicitDefEqProofs only [go_sem, Tryz.f134, h, hn']
      (repeat' (first | ((with_reducible first | refine gon ?_ ?_ | refine gos ?_ ?_ | refine cdn ?_ ?_ | refine cds ?_ ?_ | refine gpn ?_ ?_ | refine gps ?_ ?_) <;> intro h <;> (try simp only [dt, df, gi, gt] at h) <;> try simp -implicitDefEqProofs only [go_sem, *]) | ((with_reducible refine And.intro ?_ ?_); (· first | omega | (simp only [List.length_take]; omega)); try simp -implicitDefEqProofs only [go_sem, *]) | ((with_reducible refine enter_fn (hcp) ?_ ?_); (· rfl); try simp -implicitDefEqProofs only [go_sem, *])))
      exact fin_pg (q := ⟨p.lsn, r.new, p.vals⟩) rfl hp.symm
theorem RecDo_own (p : Pg) (r : Rc) (n : Int) (h : doB p r n = true) : Fn Tryz.prog 165 [pA p, rA r, I n] (fun x S => x = .tup [dA ⟨0, doP p r n⟩, Bo true] ∧ S = [vO (doP p r n)]) := by
  have h' := h
  unfold doB at h'
  simp only [Bool.and_eq_true, decide_eq_true_eq] at h'
  obtain ⟨⟨⟨⟨⟨h1, h2⟩, h3⟩, h4⟩, h5⟩, h6⟩ := h'
  have hp3 := Pg.ok_len h1
  have c1 := PageOkI_fn p (by omega)
  have c2 := recC r
  have c3 := changes_fn r
  rw [h1] at c1
  rw [h2] at c2
  rw [h3] at c3
  have c4 := with_own p r hp3 (Rc.ok_slot h2).2
  have hl : (doP p r n).vals.length = 3 := doP_sz (by exact hp3)
  have c5 := PageOkI_fn (doP p r n) (by omega)
  rw [h6] at c5
  have e := doP_at p r p.lsn n
  obtain ⟨qa, qb, qc, hq⟩ : ∃ a b c, doP p r p.lsn = ⟨a, b, c⟩ := ⟨_, _, _, rfl⟩
  rw [hq] at c4 e
  simp only at e
  rw [← e] at c5 hl ⊢
  have g4 : ¬ (n ≤ p.lsn) := by omega
  have g5 : ¬ (150 < n) := by omega
  clear e hq h h1 h2 h3 h4 h5 h6
  refine fn_of Tryz.func165 rfl rfl ?_
  simp -implicitDefEqProofs only [go_sem, Tryz.f165, g4, g5]
  (repeat' (first | ((with_reducible first | refine gon ?_ ?_ | refine gos ?_ ?_ | refine cdn ?_ ?_ | refine cds ?_ ?_ | refine gpn ?_ ?_ | refine gps ?_ ?_) <;> intro h <;> (try simp only [dt, df, gi, gt] at h) <;> try simp -implicitDefEqProofs only [go_sem, *]) | ((with_reducible refine And.intro ?_ ?_); (· first | omega | (simp only [List.length_take]; omega)); try simp -implicitDefEqProofs only [go_sem, *]) | first | ((with_reducible refine enter_pu (c1) ?_ ?_ ?_); (· rfl); (· rfl); try simp -implicitDefEqProofs only [go_sem, *]) | ((with_reducible refine enter_pu (c2) ?_ ?_ ?_); (· rfl); (· rfl); try simp -implicitDefEqProofs only [go_sem, *]) | ((with_reducible refine enter_pu (c3) ?_ ?_ ?_); (· rfl); (· rfl); try simp -implicitDefEqProofs only [go_sem, *]) | ((with_reducible refine enter_fn (c4) ?_ ?_); (· rfl); try simp -implicitDefEqProofs only [go_sem, *])))
  refine enter_see1 c5 (.cons _ _ _ _ (see_page (p := ⟨n, qb, qc⟩) (i := 3) rfl hl.symm) .nil) rfl rfl ?_
  simp -implicitDefEqProofs only [go_sem, true_and]
  refine fin_keep [3] (r' := .tup [.agg [I n, I qb, .own 0 1 0 3], Bo true]) (S' := [some ⟨1, qc.map I⟩]) (by simp) rfl (keep1 rfl (a2_I _ _)) (.tup _ _ (.cons _ _ _ _ (.agg _ _ (.cons _ _ _ _ (.same _ rfl) (.cons _ _ _ _ (.same _ rfl) (.cons _ _ _ _ (.own _ _ _ _ _ rfl) .nil)))) (.cons _ _ _ _ (.of _ _ (.same _ rfl)) .nil))) ⟨?_, rfl⟩
  have hl' : qc.length = 3 := hl
  show _ = AV.tup [.agg [I n, I qb, .own 0 1 0 qc.length], Bo true]
  rw [hl']
theorem fin_p0 {S : Store} {mv : List Nat} {b : Bool} : Fin 0 (.tup [.agg [I 0, I 0, .prim (.slice none 0 0)], Bo b]) S mv (fun r S' mv => (r = .tup [.agg [I 0, I 0, .prim (.slice none 0 0)], Bo b] ∧ S' = []) ∧ mv = []) :=
  fin_keep [] (by simp) rfl (fun j i hj => by simp at hj) (.tup _ _ (.cons _ _ _ _ (.agg _ _ (a2_same rfl)) (.cons _ _ _ _ (.of _ _ (.same _ rfl)) .nil))) ⟨rfl, rfl⟩
theorem RecDo_no (p : Pg) (r : Rc) (n : Int) (hv : p.vals.length < 4611686018427387904) (h : doB p r n = false) : Fn Tryz.prog 165 [pA p, rA r, I n] (fun x S => x = .tup [.agg [I 0, I 0, .prim (.slice none 0 0)], Bo false] ∧ S = []) := by
  have c1 := PageOkI_fn p hv
  have c2 := recC r
  have c3 := changes_fn r
  refine fn_of Tryz.func165 rfl rfl ?_
  rcases h1 : p.ok with _ | _
  · rw [h1] at c1
    simp -implicitDefEqProofs only [go_sem, Tryz.f165]
    (repeat' (first | ((with_reducible first | refine gon ?_ ?_ | refine gos ?_ ?_ | refine cdn ?_ ?_ | refine cds ?_ ?_ | refine gpn ?_ ?_ | refine gps ?_ ?_) <;> intro h <;> (try simp only [dt, df, gi, gt] at h) <;> try simp -implicitDefEqProofs only [go_sem, *]) | ((with_reducible refine And.intro ?_ ?_); (· first | omega | (simp only [List.length_take]; omega)); try simp -implicitDefEqProofs only [go_sem, *]) | first | ((with_reducible refine enter_pu (c1) ?_ ?_ ?_); (· rfl); (· rfl); try simp -implicitDefEqProofs only [go_sem, *]) | ((with_reducible refine enter_pu (c2) ?_ ?_ ?_); (· rfl); (· rfl); try simp -implicitDefEqProofs only [go_sem, *]) | ((with_reducible refine enter_pu (c3) ?_ ?_ ?_); (· rfl); (· rfl); try simp -implicitDefEqProofs only [go_sem, *])))
    all_goals exact fin_p0
  rw [h1] at c1
  rcases h2 : r.ok with _ | _
  · rw [h2] at c2
    simp -implicitDefEqProofs only [go_sem, Tryz.f165]
    (repeat' (first | ((with_reducible first | refine gon ?_ ?_ | refine gos ?_ ?_ | refine cdn ?_ ?_ | refine cds ?_ ?_ | refine gpn ?_ ?_ | refine gps ?_ ?_) <;> intro h <;> (try simp only [dt, df, gi, gt] at h) <;> try simp -implicitDefEqProofs only [go_sem, *]) | ((with_reducible refine And.intro ?_ ?_); (· first | omega | (simp only [List.length_take]; omega)); try simp -implicitDefEqProofs only [go_sem, *]) | first | ((with_reducible refine enter_pu (c1) ?_ ?_ ?_); (· rfl); (· rfl); try simp -implicitDefEqProofs only [go_sem, *]) | ((with_reducible refine enter_pu (c2) ?_ ?_ ?_); (· rfl); (· rfl); try simp -implicitDefEqProofs only [go_sem, *]) | ((with_reducible refine enter_pu (c3) ?_ ?_ ?_); (· rfl); (· rfl); try simp -implicitDefEqProofs only [go_sem, *])))
    all_goals exact fin_p0
  rw [h2] at c2
  rcases h3 : chg r.kind with _ | _
  · rw [h3] at c3
    simp -implicitDefEqProofs only [go_sem, Tryz.f165]
    (repeat' (first | ((with_reducible first | refine gon ?_ ?_ | refine gos ?_ ?_ | refine cdn ?_ ?_ | refine cds ?_ ?_ | refine gpn ?_ ?_ | refine gps ?_ ?_) <;> intro h <;> (try simp only [dt, df, gi, gt] at h) <;> try simp -implicitDefEqProofs only [go_sem, *]) | ((with_reducible refine And.intro ?_ ?_); (· first | omega | (simp only [List.length_take]; omega)); try simp -implicitDefEqProofs only [go_sem, *]) | first | ((with_reducible refine enter_pu (c1) ?_ ?_ ?_); (· rfl); (· rfl); try simp -implicitDefEqProofs only [go_sem, *]) | ((with_reducible refine enter_pu (c2) ?_ ?_ ?_); (· rfl); (· rfl); try simp -implicitDefEqProofs only [go_sem, *]) | ((with_reducible refine enter_pu (c3) ?_ ?_ ?_); (· rfl); (· rfl); try simp -implicitDefEqProofs only [go_sem, *])))
    all_goals exact fin_p0
  rw [h3] at c3
  by_cases h4 : n ≤ p.lsn
  · simp -implicitDefEqProofs only [go_sem, Tryz.f165, h4]
    (repeat' (first | ((with_reducible first | refine gon ?_ ?_ | refine gos ?_ ?_ | refine cdn ?_ ?_ | refine cds ?_ ?_ | refine gpn ?_ ?_ | refine gps ?_ ?_) <;> intro h <;> (try simp only [dt, df, gi, gt] at h) <;> try simp -implicitDefEqProofs only [go_sem, *]) | ((with_reducible refine And.intro ?_ ?_); (· first | omega | (simp only [List.length_take]; omega)); try simp -implicitDefEqProofs only [go_sem, *]) | first | ((with_reducible refine enter_pu (c1) ?_ ?_ ?_); (· rfl); (· rfl); try simp -implicitDefEqProofs only [go_sem, *]) | ((with_reducible refine enter_pu (c2) ?_ ?_ ?_); (· rfl); (· rfl); try simp -implicitDefEqProofs only [go_sem, *]) | ((with_reducible refine enter_pu (c3) ?_ ?_ ?_); (· rfl); (· rfl); try simp -implicitDefEqProofs only [go_sem, *])))
    all_goals exact fin_p0
  by_cases h5 : 150 < n
  · simp -implicitDefEqProofs only [go_sem, Tryz.f165, h4, h5]
    (repeat' (first | ((with_reducible first | refine gon ?_ ?_ | refine gos ?_ ?_ | refine cdn ?_ ?_ | refine cds ?_ ?_ | refine gpn ?_ ?_ | refine gps ?_ ?_) <;> intro h <;> (try simp only [dt, df, gi, gt] at h) <;> try simp -implicitDefEqProofs only [go_sem, *]) | ((with_reducible refine And.intro ?_ ?_); (· first | omega | (simp only [List.length_take]; omega)); try simp -implicitDefEqProofs only [go_sem, *]) | first | ((with_reducible refine enter_pu (c1) ?_ ?_ ?_); (· rfl); (· rfl); try simp -implicitDefEqProofs only [go_sem, *]) | ((with_reducible refine enter_pu (c2) ?_ ?_ ?_); (· rfl); (· rfl); try simp -implicitDefEqProofs only [go_sem, *]) | ((with_reducible refine enter_pu (c3) ?_ ?_ ?_); (· rfl); (· rfl); try simp -implicitDefEqProofs only [go_sem, *])))
    all_goals exact fin_p0
  have hp3 := Pg.ok_len h1
  have c4 := with_own p r hp3 (Rc.ok_slot h2).2
  have hl : (doP p r n).vals.length = 3 := doP_sz (by exact hp3)
  have c5 := PageOkI_fn (doP p r n) (by omega)
  have e := doP_at p r p.lsn n
  have h6 : (doP p r n).ok = false := by
    unfold doB at h
    rw [h1, h2, h3, decide_eq_true (by omega : p.lsn < n), decide_eq_true (by omega : n ≤ 150)] at h
    simpa using h
  obtain ⟨qa, qb, qc, hq⟩ : ∃ a b c, doP p r p.lsn = ⟨a, b, c⟩ := ⟨_, _, _, rfl⟩
  rw [hq] at c4 e
  simp only at e
  rw [h6, ← e] at c5
  rw [← e] at hl
  clear e hq h h1 h2 h3 h6
  simp -implicitDefEqProofs only [go_sem, Tryz.f165, h4, h5]
  (repeat' (first | ((with_reducible first | refine gon ?_ ?_ | refine gos ?_ ?_ | refine cdn ?_ ?_ | refine cds ?_ ?_ | refine gpn ?_ ?_ | refine gps ?_ ?_) <;> intro h <;> (try simp only [dt, df, gi, gt] at h) <;> try simp -implicitDefEqProofs only [go_sem, *]) | ((with_reducible refine And.intro ?_ ?_); (· first | omega | (simp only [List.length_take]; omega)); try simp -implicitDefEqProofs only [go_sem, *]) | first | ((with_reducible refine enter_pu (c1) ?_ ?_ ?_); (· rfl); (· rfl); try simp -implicitDefEqProofs only [go_sem, *]) | ((with_reducible refine enter_pu (c2) ?_ ?_ ?_); (· rfl); (· rfl); try simp -implicitDefEqProofs only [go_sem, *]) | ((with_reducible refine enter_pu (c3) ?_ ?_ ?_); (· rfl); (· rfl); try simp -implicitDefEqProofs only [go_sem, *]) | ((with_reducible refine enter_fn (c4) ?_ ?_); (· rfl); try simp -implicitDefEqProofs only [go_sem, *])))
  refine enter_see1 c5 (.cons _ _ _ _ (see_page (p := ⟨n, qb, qc⟩) (i := 3) rfl hl.symm) .nil) rfl rfl ?_
  simp -implicitDefEqProofs only [go_sem, true_and]
  exact fin_p0
theorem yield_loadA {α : Type} [Inhabited α] {zs : List Value} {n : Nat} {sh : Sh} {z0 : Nat} {f : α → AV} {l : List α} {z k sub : Nat} {v : AV} : yieldR (loadM ⟨true, zs, n, sh⟩ z0 f l z k sub) v = ((z0 = z ∧ k < l.length ∧ sub + zs.length ≤ z) ∧ .agg (((f (at' l (k : Int))).cells.drop sub).take zs.length) = v) := by
  unfold loadM
  rw [loadO_agg]
  unfold yieldR
  simp only [List.length_map]
  refine propext ⟨fun ⟨h, k⟩ => ⟨h, by rw [getM h.2.1] at k; exact k⟩, fun ⟨h, k⟩ => ⟨h, by rw [getM h.2.1]; exact k⟩⟩
end
section
attribute [local go_sem] slt_r slt_I slt_p yield_loadA
theorem fin_mem15 {a b : Int} {vals : List Int} {n p : Nat} {e : Eng} {s : Int} {r : AV} {t0 t1 : Option AObj} {mv : List Nat} {Q : AV → Store → List Nat → Prop} (hp : p < 5) (hd : e.disk.length = 5) (hm : e.mem.length = 5) (hn : n = vals.length) (hr : r = .tup [] ∨ ∃ n, r = I n) (hmv : mv = [] ∨ mv = [12])
    (h : Q r (sD ⟨e.disk, e.mem.set p ⟨a, b, vals⟩, e.log, s, e.down⟩) M13) :
    Fin 14 r (oD 1 e.disk :: vO (at' e.disk 0) :: vO (at' e.disk 1) :: vO (at' e.disk 2) :: vO (at' e.disk 3) :: vO (at' e.disk 4) :: some ⟨3, ((dps 7 e.mem).map dA).set p (.agg [I a, I b, .own 15 1 0 n])⟩ ::
      vO (at' e.mem 0) :: vO (at' e.mem 1) :: vO (at' e.mem 2) :: vO (at' e.mem 3) :: vO (at' e.mem 4) :: oR8 e.log :: some ⟨5, [dW ⟨e.disk, e.mem, e.log, s, e.down⟩]⟩ :: t0 :: some ⟨1, vals.map I⟩ :: t1 :: []) mv Q := by
  obtain ⟨ed, em, el, es, ew⟩ := e
  simp only at hd hm h ⊢
  obtain ⟨a0, a1, a2, a3, a4, rfl⟩ := list5 hd
  obtain ⟨b0, b1, b2, b3, b4, rfl⟩ := list5 hm
  subst hn
  have hmm : ∀ i, i < 14 → M13.contains i = false → i = 13 := by decide
  rcases p with _ | _ | _ | _ | _ | p
  rotate_right
  · omega
  · refine fin_movK [0, 1, 2, 3, 4, 5, 6, 15, 8, 9, 10, 11, 12, 13] M13 (by decide) (by decide) ?_ (fun i hi hc => by obtain rfl := hmm i hi hc; rcases hmv with rfl | rfl <;> exact ⟨rfl, rfl⟩) (RnT_pu hr) h
    (repeat (first | exact Keeps.nil | (refine Keeps.cons _ _ _ _ _ rfl rfl ?_ ?_; (· first | exact a2_I _ _ | exact a2_r _ _ | exact All2.cons _ _ _ _ (Rn1.agg _ _ (All2.cons _ _ _ _ (Rn0.own _ _ _ _ _ rfl) (All2.cons _ _ _ _ (Rn0.own _ _ _ _ _ rfl) (All2.cons _ _ _ _ (Rn0.own _ _ _ _ _ rfl) (All2.cons _ _ _ _ (Rn0.same _ rfl) (All2.cons _ _ _ _ (Rn0.same _ rfl) All2.nil)))))) All2.nil | (repeat (first | exact All2.nil | refine All2.cons _ _ _ _ (Rn1.agg _ _ (All2.cons _ _ _ _ (Rn0.same _ rfl) (All2.cons _ _ _ _ (Rn0.same _ rfl) (All2.cons _ _ _ _ (Rn0.own _ _ _ _ _ rfl) All2.nil)))) ?_))))))
  · refine fin_movK [0, 1, 2, 3, 4, 5, 6, 7, 15, 9, 10, 11, 12, 13] M13 (by decide) (by decide) ?_ (fun i hi hc => by obtain rfl := hmm i hi hc; rcases hmv with rfl | rfl <;> exact ⟨rfl, rfl⟩) (RnT_pu hr) h
    (repeat (first | exact Keeps.nil | (refine Keeps.cons _ _ _ _ _ rfl rfl ?_ ?_; (· first | exact a2_I _ _ | exact a2_r _ _ | exact All2.cons _ _ _ _ (Rn1.agg _ _ (All2.cons _ _ _ _ (Rn0.own _ _ _ _ _ rfl) (All2.cons _ _ _ _ (Rn0.own _ _ _ _ _ rfl) (All2.cons _ _ _ _ (Rn0.own _ _ _ _ _ rfl) (All2.cons _ _ _ _ (Rn0.same _ rfl) (All2.cons _ _ _ _ (Rn0.same _ rfl) All2.nil)))))) All2.nil | (repeat (first | exact All2.nil | refine All2.cons _ _ _ _ (Rn1.agg _ _ (All2.cons _ _ _ _ (Rn0.same _ rfl) (All2.cons _ _ _ _ (Rn0.same _ rfl) (All2.cons _ _ _ _ (Rn0.own _ _ _ _ _ rfl) All2.nil)))) ?_))))))
  · refine fin_movK [0, 1, 2, 3, 4, 5, 6, 7, 8, 15, 10, 11, 12, 13] M13 (by decide) (by decide) ?_ (fun i hi hc => by obtain rfl := hmm i hi hc; rcases hmv with rfl | rfl <;> exact ⟨rfl, rfl⟩) (RnT_pu hr) h
    (repeat (first | exact Keeps.nil | (refine Keeps.cons _ _ _ _ _ rfl rfl ?_ ?_; (· first | exact a2_I _ _ | exact a2_r _ _ | exact All2.cons _ _ _ _ (Rn1.agg _ _ (All2.cons _ _ _ _ (Rn0.own _ _ _ _ _ rfl) (All2.cons _ _ _ _ (Rn0.own _ _ _ _ _ rfl) (All2.cons _ _ _ _ (Rn0.own _ _ _ _ _ rfl) (All2.cons _ _ _ _ (Rn0.same _ rfl) (All2.cons _ _ _ _ (Rn0.same _ rfl) All2.nil)))))) All2.nil | (repeat (first | exact All2.nil | refine All2.cons _ _ _ _ (Rn1.agg _ _ (All2.cons _ _ _ _ (Rn0.same _ rfl) (All2.cons _ _ _ _ (Rn0.same _ rfl) (All2.cons _ _ _ _ (Rn0.own _ _ _ _ _ rfl) All2.nil)))) ?_))))))
  · refine fin_movK [0, 1, 2, 3, 4, 5, 6, 7, 8, 9, 15, 11, 12, 13] M13 (by decide) (by decide) ?_ (fun i hi hc => by obtain rfl := hmm i hi hc; rcases hmv with rfl | rfl <;> exact ⟨rfl, rfl⟩) (RnT_pu hr) h
    (repeat (first | exact Keeps.nil | (refine Keeps.cons _ _ _ _ _ rfl rfl ?_ ?_; (· first | exact a2_I _ _ | exact a2_r _ _ | exact All2.cons _ _ _ _ (Rn1.agg _ _ (All2.cons _ _ _ _ (Rn0.own _ _ _ _ _ rfl) (All2.cons _ _ _ _ (Rn0.own _ _ _ _ _ rfl) (All2.cons _ _ _ _ (Rn0.own _ _ _ _ _ rfl) (All2.cons _ _ _ _ (Rn0.same _ rfl) (All2.cons _ _ _ _ (Rn0.same _ rfl) All2.nil)))))) All2.nil | (repeat (first | exact All2.nil | refine All2.cons _ _ _ _ (Rn1.agg _ _ (All2.cons _ _ _ _ (Rn0.same _ rfl) (All2.cons _ _ _ _ (Rn0.same _ rfl) (All2.cons _ _ _ _ (Rn0.own _ _ _ _ _ rfl) All2.nil)))) ?_))))))
  · refine fin_movK [0, 1, 2, 3, 4, 5, 6, 7, 8, 9, 10, 15, 12, 13] M13 (by decide) (by decide) ?_ (fun i hi hc => by obtain rfl := hmm i hi hc; rcases hmv with rfl | rfl <;> exact ⟨rfl, rfl⟩) (RnT_pu hr) h
    (repeat (first | exact Keeps.nil | (refine Keeps.cons _ _ _ _ _ rfl rfl ?_ ?_; (· first | exact a2_I _ _ | exact a2_r _ _ | exact All2.cons _ _ _ _ (Rn1.agg _ _ (All2.cons _ _ _ _ (Rn0.own _ _ _ _ _ rfl) (All2.cons _ _ _ _ (Rn0.own _ _ _ _ _ rfl) (All2.cons _ _ _ _ (Rn0.own _ _ _ _ _ rfl) (All2.cons _ _ _ _ (Rn0.same _ rfl) (All2.cons _ _ _ _ (Rn0.same _ rfl) All2.nil)))))) All2.nil | (repeat (first | exact All2.nil | refine All2.cons _ _ _ _ (Rn1.agg _ _ (All2.cons _ _ _ _ (Rn0.same _ rfl) (All2.cons _ _ _ _ (Rn0.same _ rfl) (All2.cons _ _ _ _ (Rn0.own _ _ _ _ _ rfl) All2.nil)))) ?_))))))
theorem fin_mem16 {a b : Int} {vals : List Int} {n p : Nat} {e : Eng} {s : Int} {r : AV} {t0 t1 : Option AObj} {mv : List Nat} {Q : AV → Store → List Nat → Prop} (hp : p < 5) (hd : e.disk.length = 5) (hm : e.mem.length = 5) (hn : n = vals.length) (hr : r = .tup [] ∨ ∃ n, r = I n) (hmv : mv = [] ∨ mv = [12])
    (h : Q r (sD ⟨e.disk, e.mem.set p ⟨a, b, vals⟩, e.log, s, e.down⟩) M13) :
    Fin 14 r (oD 1 e.disk :: vO (at' e.disk 0) :: vO (at' e.disk 1) :: vO (at' e.disk 2) :: vO (at' e.disk 3) :: vO (at' e.disk 4) :: some ⟨3, ((dps 7 e.mem).map dA).set p (.agg [I a, I b, .own 16 1 0 n])⟩ ::
      vO (at' e.mem 0) :: vO (at' e.mem 1) :: vO (at' e.mem 2) :: vO (at' e.mem 3) :: vO (at' e.mem 4) :: oR8 e.log :: some ⟨5, [dW ⟨e.disk, e.mem, e.log, s, e.down⟩]⟩ :: t0 :: t1 :: some ⟨1, vals.map I⟩ :: []) mv Q := by
  obtain ⟨ed, em, el, es, ew⟩ := e
  simp only at hd hm h ⊢
  obtain ⟨a0, a1, a2, a3, a4, rfl⟩ := list5 hd
  obtain ⟨b0, b1, b2, b3, b4, rfl⟩ := list5 hm
  subst hn
  have hmm : ∀ i, i < 14 → M13.contains i = false → i = 13 := by decide
  rcases p with _ | _ | _ | _ | _ | p
  rotate_right
  · omega
  · refine fin_movK [0, 1, 2, 3, 4, 5, 6, 16, 8, 9, 10, 11, 12, 13] M13 (by decide) (by decide) ?_ (fun i hi hc => by obtain rfl := hmm i hi hc; rcases hmv with rfl | rfl <;> exact ⟨rfl, rfl⟩) (RnT_pu hr) h
    (repeat (first | exact Keeps.nil | (refine Keeps.cons _ _ _ _ _ rfl rfl ?_ ?_; (· first | exact a2_I _ _ | exact a2_r _ _ | exact All2.cons _ _ _ _ (Rn1.agg _ _ (All2.cons _ _ _ _ (Rn0.own _ _ _ _ _ rfl) (All2.cons _ _ _ _ (Rn0.own _ _ _ _ _ rfl) (All2.cons _ _ _ _ (Rn0.own _ _ _ _ _ rfl) (All2.cons _ _ _ _ (Rn0.same _ rfl) (All2.cons _ _ _ _ (Rn0.same _ rfl) All2.nil)))))) All2.nil | (repeat (first | exact All2.nil | refine All2.cons _ _ _ _ (Rn1.agg _ _ (All2.cons _ _ _ _ (Rn0.same _ rfl) (All2.cons _ _ _ _ (Rn0.same _ rfl) (All2.cons _ _ _ _ (Rn0.own _ _ _ _ _ rfl) All2.nil)))) ?_))))))
  · refine fin_movK [0, 1, 2, 3, 4, 5, 6, 7, 16, 9, 10, 11, 12, 13] M13 (by decide) (by decide) ?_ (fun i hi hc => by obtain rfl := hmm i hi hc; rcases hmv with rfl | rfl <;> exact ⟨rfl, rfl⟩) (RnT_pu hr) h
    (repeat (first | exact Keeps.nil | (refine Keeps.cons _ _ _ _ _ rfl rfl ?_ ?_; (· first | exact a2_I _ _ | exact a2_r _ _ | exact All2.cons _ _ _ _ (Rn1.agg _ _ (All2.cons _ _ _ _ (Rn0.own _ _ _ _ _ rfl) (All2.cons _ _ _ _ (Rn0.own _ _ _ _ _ rfl) (All2.cons _ _ _ _ (Rn0.own _ _ _ _ _ rfl) (All2.cons _ _ _ _ (Rn0.same _ rfl) (All2.cons _ _ _ _ (Rn0.same _ rfl) All2.nil)))))) All2.nil | (repeat (first | exact All2.nil | refine All2.cons _ _ _ _ (Rn1.agg _ _ (All2.cons _ _ _ _ (Rn0.same _ rfl) (All2.cons _ _ _ _ (Rn0.same _ rfl) (All2.cons _ _ _ _ (Rn0.own _ _ _ _ _ rfl) All2.nil)))) ?_))))))
  · refine fin_movK [0, 1, 2, 3, 4, 5, 6, 7, 8, 16, 10, 11, 12, 13] M13 (by decide) (by decide) ?_ (fun i hi hc => by obtain rfl := hmm i hi hc; rcases hmv with rfl | rfl <;> exact ⟨rfl, rfl⟩) (RnT_pu hr) h
    (repeat (first | exact Keeps.nil | (refine Keeps.cons _ _ _ _ _ rfl rfl ?_ ?_; (· first | exact a2_I _ _ | exact a2_r _ _ | exact All2.cons _ _ _ _ (Rn1.agg _ _ (All2.cons _ _ _ _ (Rn0.own _ _ _ _ _ rfl) (All2.cons _ _ _ _ (Rn0.own _ _ _ _ _ rfl) (All2.cons _ _ _ _ (Rn0.own _ _ _ _ _ rfl) (All2.cons _ _ _ _ (Rn0.same _ rfl) (All2.cons _ _ _ _ (Rn0.same _ rfl) All2.nil)))))) All2.nil | (repeat (first | exact All2.nil | refine All2.cons _ _ _ _ (Rn1.agg _ _ (All2.cons _ _ _ _ (Rn0.same _ rfl) (All2.cons _ _ _ _ (Rn0.same _ rfl) (All2.cons _ _ _ _ (Rn0.own _ _ _ _ _ rfl) All2.nil)))) ?_))))))
  · refine fin_movK [0, 1, 2, 3, 4, 5, 6, 7, 8, 9, 16, 11, 12, 13] M13 (by decide) (by decide) ?_ (fun i hi hc => by obtain rfl := hmm i hi hc; rcases hmv with rfl | rfl <;> exact ⟨rfl, rfl⟩) (RnT_pu hr) h
    (repeat (first | exact Keeps.nil | (refine Keeps.cons _ _ _ _ _ rfl rfl ?_ ?_; (· first | exact a2_I _ _ | exact a2_r _ _ | exact All2.cons _ _ _ _ (Rn1.agg _ _ (All2.cons _ _ _ _ (Rn0.own _ _ _ _ _ rfl) (All2.cons _ _ _ _ (Rn0.own _ _ _ _ _ rfl) (All2.cons _ _ _ _ (Rn0.own _ _ _ _ _ rfl) (All2.cons _ _ _ _ (Rn0.same _ rfl) (All2.cons _ _ _ _ (Rn0.same _ rfl) All2.nil)))))) All2.nil | (repeat (first | exact All2.nil | refine All2.cons _ _ _ _ (Rn1.agg _ _ (All2.cons _ _ _ _ (Rn0.same _ rfl) (All2.cons _ _ _ _ (Rn0.same _ rfl) (All2.cons _ _ _ _ (Rn0.own _ _ _ _ _ rfl) All2.nil)))) ?_))))))
  · refine fin_movK [0, 1, 2, 3, 4, 5, 6, 7, 8, 9, 10, 16, 12, 13] M13 (by decide) (by decide) ?_ (fun i hi hc => by obtain rfl := hmm i hi hc; rcases hmv with rfl | rfl <;> exact ⟨rfl, rfl⟩) (RnT_pu hr) h
    (repeat (first | exact Keeps.nil | (refine Keeps.cons _ _ _ _ _ rfl rfl ?_ ?_; (· first | exact a2_I _ _ | exact a2_r _ _ | exact All2.cons _ _ _ _ (Rn1.agg _ _ (All2.cons _ _ _ _ (Rn0.own _ _ _ _ _ rfl) (All2.cons _ _ _ _ (Rn0.own _ _ _ _ _ rfl) (All2.cons _ _ _ _ (Rn0.own _ _ _ _ _ rfl) (All2.cons _ _ _ _ (Rn0.same _ rfl) (All2.cons _ _ _ _ (Rn0.same _ rfl) All2.nil)))))) All2.nil | (repeat (first | exact All2.nil | refine All2.cons _ _ _ _ (Rn1.agg _ _ (All2.cons _ _ _ _ (Rn0.same _ rfl) (All2.cons _ _ _ _ (Rn0.same _ rfl) (All2.cons _ _ _ _ (Rn0.own _ _ _ _ _ rfl) All2.nil)))) ?_))))))
attribute [local go_sem] List.append_assoc sD_len
theorem rc_at {e : Eng} {r : Rc} : at' (e.alog r) (e.log.length : Int) = e.rc r := by simp [Eng.alog, at', List.getD]
theorem applyD (e : Eng) (r : Rc) (k : Nat) (hk : k < 5) (hpg : r.page = (k : Int)) (hd : Sz e.disk) (hm : Sz e.mem) (hl : e.log.length ≤ 1000) (hdo : doB (at' e.mem (k : Int)) (e.rc r) ((e.log.length + 1 : Nat) : Int) = true) :
    AFn1 Tryz.prog 113 [.ref 13 5 0 0, rA r] (sD e) (.tup []) (sD ⟨e.disk, e.mem.set k (doP (at' e.mem (k : Int)) (e.rc r) ((e.log.length + 1 : Nat) : Int)), e.alog r, e.safe, e.down⟩) M13 := by
  have hd5 := hd.len
  have hm5 := hm.len
  have hsz := hm.sz k hk
  have cA := addD e r hd hm hl
  have cR := RecDo_own (at' e.mem (k : Int)) (e.rc r) ((e.log.length + 1 : Nat) : Int) hdo
  obtain ⟨q, hq⟩ : ∃ q, doP (at' e.mem (k : Int)) (e.rc r) ((e.log.length + 1 : Nat) : Int) = q := ⟨_, rfl⟩
  have hqv : q.vals.length = 3 := by rw [← hq]; exact doP_sz hsz
  rw [hq] at cR ⊢
  have hal := alog_len e r
  have hat := rc_at (e := e) (r := r)
  have hatd : at' (dps 7 e.mem) (k : Int) = ⟨7 + k, at' e.mem (k : Int)⟩ := dps_at (by omega)
  have hl2 : (dps 7 e.mem).length = 5 := by rw [dps_len, hm5]
  have hb : e.log.length + 1 < 4611686018427387904 := by omega
  have h5 : (k : Int) < 5 := by omega
  have hlt : e.log.length < e.log.length + 1 := by omega
  have hw1 : IntKind.i64.wrap (e.log.length : Int) = (e.log.length : Int) := wrap_ok (by omega) (by omega)
  have g13 : ∀ (e : Eng) T, getO (sD e ++ T) 13 = some ⟨5, [dW e]⟩ := fun e T => rfl
  have g14 : ∀ (e : Eng) o T, getO (sD e ++ some o :: T) 14 = some o := fun e o T => rfl
  have g6 : ∀ (e : Eng) T, getO (sD e ++ T) 6 = some ⟨3, (dps 7 e.mem).map dA⟩ := fun e T => rfl
  have g12 : ∀ (e : Eng) T, getO (sD e ++ T) 12 = some ⟨8, e.log.map rA⟩ := fun e T => rfl
  have g15 : ∀ (e : Eng) a o T, getO (sD e ++ a :: some o :: T) 15 = some o := fun e a o T => rfl
  have g16 : ∀ (e : Eng) a b o T, getO (sD e ++ a :: b :: some o :: T) 16 = some o := fun e a b o T => rfl
  have t15 : ∀ (e : Eng) a o x T, (sD e ++ a :: o :: T).set 15 x = sD e ++ a :: x :: T := fun e a o x T => rfl
  have t16 : ∀ (e : Eng) a b o x T, (sD e ++ a :: b :: o :: T).set 16 x = sD e ++ a :: b :: x :: T := fun e a b o x T => rfl
  clear hq hdo
  refine afn1_of Tryz.func113 rfl rfl ?_
  simp -implicitDefEqProofs only [go_sem, Tryz.f113, sD_len, g13, g14]
  refine enter_sD (e' := ⟨e.disk, e.mem, e.alog r, e.safe, e.down⟩) (M := [12]) (B := [some ⟨8, [rA r]⟩]) cA rfl hd5 hm5 hd5 hm5 rfl rfl rfl rfl (by simp) rfl ?_
  simp -implicitDefEqProofs only [go_sem, scT, g13, g14]
  refine cp_drawG (id := 2) 24 (fun S => getO S 13 = some ⟨5, [dW ⟨e.disk, e.mem, e.alog r, e.safe, e.down⟩]⟩ ∧ getO S 6 = some ⟨3, (dps 7 e.mem).map dA⟩ ∧ getO S 12 = some ⟨8, (e.alog r).map rA⟩ ∧ getO S 14 = some ⟨8, [rA r]⟩) mixed rfl ?_
  ((refine expG_get 0 (.ref 13 5 0 0) rfl ?_ ?_ (by repeat (first | rfl | refine And.intro rfl ?_)) ?_ ?_); (· decide +kernel); (· decide +kernel); (· (intro S hS0; simp -implicitDefEqProofs only [go_sem, hS0, *])); try simp -implicitDefEqProofs only [go_sem, List.set_cons_succ, List.set_cons_zero])
  ((refine expG_get 1 (.ref 13 5 0 0) rfl ?_ ?_ (by repeat (first | rfl | refine And.intro rfl ?_)) ?_ ?_); (· decide +kernel); (· decide +kernel); (· (intro S hS0; simp -implicitDefEqProofs only [go_sem, hS0, *])); try simp -implicitDefEqProofs only [go_sem, List.set_cons_succ, List.set_cons_zero])
  ((refine expG_get 2 (.ref 13 5 0 1) rfl ?_ ?_ (by repeat (first | rfl | refine And.intro rfl ?_)) ?_ ?_); (· decide +kernel); (· decide +kernel); (· (intro S hS0; simp -implicitDefEqProofs only [go_sem, hS0, *])); try simp -implicitDefEqProofs only [go_sem, List.set_cons_succ, List.set_cons_zero])
  ((refine expG_get 3 (.own 6 3 0 5) rfl ?_ ?_ (by repeat (first | rfl | refine And.intro rfl ?_)) ?_ ?_); (· decide +kernel); (· decide +kernel); (· (intro S hS0; simp -implicitDefEqProofs only [go_sem, hS0, *])); try simp -implicitDefEqProofs only [go_sem, List.set_cons_succ, List.set_cons_zero])
  ((refine expG_get 4 (.ref 14 8 0 2) rfl ?_ ?_ (by repeat (first | rfl | refine And.intro rfl ?_)) ?_ ?_); (· decide +kernel); (· decide +kernel); (· (intro S hS0; simp -implicitDefEqProofs only [go_sem, hS0, *])); try simp -implicitDefEqProofs only [go_sem, List.set_cons_succ, List.set_cons_zero])
  ((refine expG_get 5 (I (k : Int)) rfl ?_ ?_ (by repeat (first | rfl | refine And.intro rfl ?_)) ?_ ?_); (· decide +kernel); (· decide +kernel); (· (intro S hS0; simp -implicitDefEqProofs only [go_sem, hS0, *])); try simp -implicitDefEqProofs only [go_sem, List.set_cons_succ, List.set_cons_zero])
  ((refine expG_get 6 (.ref 6 3 k 0) rfl ?_ ?_ (by repeat (first | rfl | refine And.intro rfl ?_)) ?_ ?_); (· decide +kernel); (· decide +kernel); (· (intro S hS0; simp -implicitDefEqProofs only [go_sem, hS0, *])); try simp -implicitDefEqProofs only [go_sem, List.set_cons_succ, List.set_cons_zero])
  ((refine expG_get 7 (.agg [I (at' e.mem (k : Int)).lsn, I (at' e.mem (k : Int)).owner, .own (7 + k) 1 0 3]) rfl ?_ ?_ (by repeat (first | rfl | refine And.intro rfl ?_)) ?_ ?_); (· decide +kernel); (· decide +kernel); (· (intro S hS0; simp -implicitDefEqProofs only [go_sem, hS0, *])); try simp -implicitDefEqProofs only [go_sem, List.set_cons_succ, List.set_cons_zero])
  ((refine expG_get 8 (.ref 13 5 0 0) rfl ?_ ?_ (by repeat (first | rfl | refine And.intro rfl ?_)) ?_ ?_); (· decide +kernel); (· decide +kernel); (· (intro S hS0; simp -implicitDefEqProofs only [go_sem, hS0, *])); try simp -implicitDefEqProofs only [go_sem, List.set_cons_succ, List.set_cons_zero])
  ((refine expG_get 9 (.ref 13 5 0 0) rfl ?_ ?_ (by repeat (first | rfl | refine And.intro rfl ?_)) ?_ ?_); (· decide +kernel); (· decide +kernel); (· (intro S hS0; simp -implicitDefEqProofs only [go_sem, hS0, *])); try simp -implicitDefEqProofs only [go_sem, List.set_cons_succ, List.set_cons_zero])
  ((refine expG_get 10 (.ref 13 5 0 2) rfl ?_ ?_ (by repeat (first | rfl | refine And.intro rfl ?_)) ?_ ?_); (· decide +kernel); (· decide +kernel); (· (intro S hS0; simp -implicitDefEqProofs only [go_sem, hS0, *])); try simp -implicitDefEqProofs only [go_sem, List.set_cons_succ, List.set_cons_zero])
  ((refine expG_get 11 (.own 12 8 0 (e.log.length + 1)) rfl ?_ ?_ (by repeat (first | rfl | refine And.intro rfl ?_)) ?_ ?_); (· decide +kernel); (· decide +kernel); (· (intro S hS0; simp -implicitDefEqProofs only [go_sem, hS0, *])); try simp -implicitDefEqProofs only [go_sem, List.set_cons_succ, List.set_cons_zero])
  ((refine expG_get 12 (I ((e.log.length + 1 : Nat) : Int)) rfl ?_ ?_ (by repeat (first | rfl | refine And.intro rfl ?_)) ?_ ?_); (· decide +kernel); (· decide +kernel); (· (intro S hS0; simp -implicitDefEqProofs only [go_sem, hS0, *])); try simp -implicitDefEqProofs only [go_sem, List.set_cons_succ, List.set_cons_zero])
  ((refine expG_get 13 (I (e.log.length : Int)) rfl ?_ ?_ (by repeat (first | rfl | refine And.intro rfl ?_)) ?_ ?_); (· decide +kernel); (· decide +kernel); (· (intro S hS0; simp -implicitDefEqProofs only [go_sem, hS0, *])); try simp -implicitDefEqProofs only [go_sem, List.set_cons_succ, List.set_cons_zero])
  ((refine expG_get 14 (.ref 12 8 e.log.length 0) rfl ?_ ?_ (by repeat (first | rfl | refine And.intro rfl ?_)) ?_ ?_); (· decide +kernel); (· decide +kernel); (· (intro S hS0; simp -implicitDefEqProofs only [go_sem, hS0, *])); try simp -implicitDefEqProofs only [go_sem, List.set_cons_succ, List.set_cons_zero])
  ((refine expG_get 15 (rA (e.rc r)) rfl ?_ ?_ (by repeat (first | rfl | refine And.intro rfl ?_)) ?_ ?_); (· decide +kernel); (· decide +kernel); (· (intro S hS0; simp -implicitDefEqProofs only [go_sem, hS0, *])); try simp -implicitDefEqProofs only [go_sem, List.set_cons_succ, List.set_cons_zero])
  ((refine expG_get 16 (I ((e.log.length + 1 : Nat) : Int)) rfl ?_ ?_ (by repeat (first | rfl | refine And.intro rfl ?_)) ?_ ?_); (· decide +kernel); (· decide +kernel); (· (intro S hS0; simp -implicitDefEqProofs only [go_sem, hS0, *])); try simp -implicitDefEqProofs only [go_sem, List.set_cons_succ, List.set_cons_zero])
  have hfl : ∀ (o : AObj), some o ∈ [vO q] → ∀ x ∈ o.es, x.flat1 = true := by
    intro o ho x hx
    rw [List.mem_singleton] at ho
    cases ho
    obtain ⟨n, _, rfl⟩ := List.mem_map.1 hx
    rfl
  replace hfl := Hid.mk' hfl
  ((with_reducible refine expG_two 17 21 ?_ ?_ ?_); (· decide +kernel); all_goals (try simp -implicitDefEqProofs only [go_sem, *]))
  · refine enter_see cR (.cons _ _ _ _ (see_page (sD_mem (e := ⟨e.disk, e.mem, e.alog r, e.safe, e.down⟩) hk _) hsz.symm) (.cons _ _ _ _ (see_same rfl) (.cons _ _ _ _ (see_same rfl) .nil))) rfl hfl ?_
    simp -implicitDefEqProofs only [go_sem, *]
    ((refine expG_get 18 (.tup [.agg [I q.lsn, I q.owner, .own 15 1 0 3], Bo true]) rfl ?_ ?_ (by repeat (first | rfl | refine And.intro rfl ?_)) ?_ ?_); (· decide +kernel); (· decide +kernel); (· (intro S hS0; simp -implicitDefEqProofs only [go_sem, hS0, *])); try simp -implicitDefEqProofs only [go_sem, List.set_cons_succ, List.set_cons_zero])
    ((refine expG_get 19 (.agg [I q.lsn, I q.owner, .own 15 1 0 3]) rfl ?_ ?_ (by repeat (first | rfl | refine And.intro rfl ?_)) ?_ ?_); (· decide +kernel); (· decide +kernel); (· (intro S hS0; simp -implicitDefEqProofs only [go_sem, hS0, *])); try simp -implicitDefEqProofs only [go_sem, List.set_cons_succ, List.set_cons_zero])
    ((refine expG_get 20 (Bo true) rfl ?_ ?_ (by repeat (first | rfl | refine And.intro rfl ?_)) ?_ ?_); (· decide +kernel); (· decide +kernel); (· (intro S hS0; simp -implicitDefEqProofs only [go_sem, hS0, *])); try simp -implicitDefEqProofs only [go_sem, List.set_cons_succ, List.set_cons_zero])
    (repeat' (first | ((with_reducible first | refine gon ?_ ?_ | refine gos ?_ ?_ | refine cdn ?_ ?_ | refine cds ?_ ?_ | refine gpn ?_ ?_ | refine gps ?_ ?_) <;> intro h <;> (try simp only [dt, df, gi, gt] at h) <;> try simp -implicitDefEqProofs only [go_sem, *]) | ((with_reducible refine And.intro ?_ ?_); (· first | omega | (simp only [List.length_take]; omega)); try simp -implicitDefEqProofs only [go_sem, *]) | first | ((with_reducible refine expG_one 21 ?_ ?_); (· decide +kernel); try simp -implicitDefEqProofs only [go_sem, *]) | ((with_reducible refine expG_one 22 ?_ ?_); (· decide +kernel); try simp -implicitDefEqProofs only [go_sem, *]) | ((with_reducible refine expG_one 23 ?_ ?_); (· decide +kernel); try simp -implicitDefEqProofs only [go_sem, *]) | ((with_reducible refine expG_end ?_ ?_); (· decide +kernel); try simp -implicitDefEqProofs only [go_sem, *]) | fail))
    refine cp_drawG (id := 4) 9 (fun S => getO S 13 = some ⟨5, [dW ⟨e.disk, e.mem, e.alog r, e.safe, e.down⟩]⟩ ∧ getO S 14 = some ⟨8, [rA r]⟩ ∧ getO S 16 = some ⟨3, [.agg [I q.lsn, I q.owner, .own 15 1 0 3]]⟩) mixed rfl ?_
    ((refine expG_get 0 (.ref 13 5 0 0) rfl ?_ ?_ (by repeat (first | rfl | refine And.intro rfl ?_)) ?_ ?_); (· decide +kernel); (· decide +kernel); (· (intro S hS0; simp -implicitDefEqProofs only [go_sem, hS0, *])); try simp -implicitDefEqProofs only [go_sem, List.set_cons_succ, List.set_cons_zero])
    ((refine expG_get 1 (.ref 13 5 0 0) rfl ?_ ?_ (by repeat (first | rfl | refine And.intro rfl ?_)) ?_ ?_); (· decide +kernel); (· decide +kernel); (· (intro S hS0; simp -implicitDefEqProofs only [go_sem, hS0, *])); try simp -implicitDefEqProofs only [go_sem, List.set_cons_succ, List.set_cons_zero])
    ((refine expG_get 2 (.ref 13 5 0 1) rfl ?_ ?_ (by repeat (first | rfl | refine And.intro rfl ?_)) ?_ ?_); (· decide +kernel); (· decide +kernel); (· (intro S hS0; simp -implicitDefEqProofs only [go_sem, hS0, *])); try simp -implicitDefEqProofs only [go_sem, List.set_cons_succ, List.set_cons_zero])
    ((refine expG_get 3 (.own 6 3 0 5) rfl ?_ ?_ (by repeat (first | rfl | refine And.intro rfl ?_)) ?_ ?_); (· decide +kernel); (· decide +kernel); (· (intro S hS0; simp -implicitDefEqProofs only [go_sem, hS0, *])); try simp -implicitDefEqProofs only [go_sem, List.set_cons_succ, List.set_cons_zero])
    ((refine expG_get 4 (.ref 14 8 0 2) rfl ?_ ?_ (by repeat (first | rfl | refine And.intro rfl ?_)) ?_ ?_); (· decide +kernel); (· decide +kernel); (· (intro S hS0; simp -implicitDefEqProofs only [go_sem, hS0, *])); try simp -implicitDefEqProofs only [go_sem, List.set_cons_succ, List.set_cons_zero])
    ((refine expG_get 5 (I (k : Int)) rfl ?_ ?_ (by repeat (first | rfl | refine And.intro rfl ?_)) ?_ ?_); (· decide +kernel); (· decide +kernel); (· (intro S hS0; simp -implicitDefEqProofs only [go_sem, hS0, *])); try simp -implicitDefEqProofs only [go_sem, List.set_cons_succ, List.set_cons_zero])
    ((refine expG_get 6 (.agg [I q.lsn, I q.owner, .own 15 1 0 3]) rfl ?_ ?_ (by repeat (first | rfl | refine And.intro rfl ?_)) ?_ ?_); (· decide +kernel); (· decide +kernel); (· (intro S hS0; simp -implicitDefEqProofs only [go_sem, hS0, *])); try simp -implicitDefEqProofs only [go_sem, List.set_cons_succ, List.set_cons_zero])
    ((with_reducible refine expG_one 7 ?_ ?_); (· decide +kernel); try simp -implicitDefEqProofs only [go_sem, *])
    (repeat' (first | ((with_reducible first | refine gon ?_ ?_ | refine gos ?_ ?_ | refine cdn ?_ ?_ | refine cds ?_ ?_ | refine gpn ?_ ?_ | refine gps ?_ ?_) <;> intro h <;> (try simp only [dt, df, gi, gt] at h) <;> try simp -implicitDefEqProofs only [go_sem, *]) | ((with_reducible refine And.intro ?_ ?_); (· first | omega | (simp only [List.length_take]; omega)); try simp -implicitDefEqProofs only [go_sem, *]) | fail))
    ((with_reducible refine expG_one 8 ?_ ?_); (· decide +kernel); try simp -implicitDefEqProofs only [go_sem, *])
    refine And.intro ⟨rfl, rfl, rfl⟩ ?_
    ((with_reducible refine expG_end ?_ ?_); (· decide +kernel); try simp -implicitDefEqProofs only [go_sem, *])
    (repeat' (first | ((with_reducible first | refine gon ?_ ?_ | refine gos ?_ ?_ | refine cdn ?_ ?_ | refine cds ?_ ?_ | refine gpn ?_ ?_ | refine gps ?_ ?_) <;> intro h <;> (try simp only [dt, df, gi, gt] at h) <;> try simp -implicitDefEqProofs only [go_sem, *]) | ((with_reducible refine And.intro ?_ ?_); (· first | omega | (simp only [List.length_take]; omega)); try simp -implicitDefEqProofs only [go_sem, *]) | fail))
    have := fin_mem15 (t0 := some ⟨8, [rA r]⟩) (t1 := some ⟨3, [.agg [I q.lsn, I q.owner, .own 15 1 0 3]]⟩) (a := q.lsn) (b := q.owner) (vals := q.vals) (n := 3) (p := k) (e := ⟨e.disk, e.mem, e.alog r, e.safe, e.down⟩) (s := e.safe) (r := .tup []) (mv := [12]) (Q := fun r' S' mv => r' = AV.tup [] ∧ S' = sD ⟨e.disk, e.mem.set k q, e.alog r, e.safe, e.down⟩ ∧ mv = M13) hk hd5 hm5 hqv.symm (.inl rfl) (.inr rfl) ⟨rfl, rfl, rfl⟩
    exact this
  · ((with_reducible refine expG_one 17 ?_ ?_); (· decide +kernel); try simp -implicitDefEqProofs only [go_sem, *])
    refine enter_see cR (.cons _ _ _ _ (see_page (sD_mem (e := ⟨e.disk, e.mem, e.alog r, e.safe, e.down⟩) hk _) hsz.symm) (.cons _ _ _ _ (see_same rfl) (.cons _ _ _ _ (see_same rfl) .nil))) rfl hfl ?_
    simp -implicitDefEqProofs only [go_sem, *]
    ((refine expG_get 18 (.tup [.agg [I q.lsn, I q.owner, .own 16 1 0 3], Bo true]) rfl ?_ ?_ (by repeat (first | rfl | refine And.intro rfl ?_)) ?_ ?_); (· decide +kernel); (· decide +kernel); (· (intro S hS0; simp -implicitDefEqProofs only [go_sem, hS0, *])); try simp -implicitDefEqProofs only [go_sem, List.set_cons_succ, List.set_cons_zero])
    ((refine expG_get 19 (.agg [I q.lsn, I q.owner, .own 16 1 0 3]) rfl ?_ ?_ (by repeat (first | rfl | refine And.intro rfl ?_)) ?_ ?_); (· decide +kernel); (· decide +kernel); (· (intro S hS0; simp -implicitDefEqProofs only [go_sem, hS0, *])); try simp -implicitDefEqProofs only [go_sem, List.set_cons_succ, List.set_cons_zero])
    ((refine expG_get 20 (Bo true) rfl ?_ ?_ (by repeat (first | rfl | refine And.intro rfl ?_)) ?_ ?_); (· decide +kernel); (· decide +kernel); (· (intro S hS0; simp -implicitDefEqProofs only [go_sem, hS0, *])); try simp -implicitDefEqProofs only [go_sem, List.set_cons_succ, List.set_cons_zero])
    (repeat' (first | ((with_reducible first | refine gon ?_ ?_ | refine gos ?_ ?_ | refine cdn ?_ ?_ | refine cds ?_ ?_ | refine gpn ?_ ?_ | refine gps ?_ ?_) <;> intro h <;> (try simp only [dt, df, gi, gt] at h) <;> try simp -implicitDefEqProofs only [go_sem, *]) | ((with_reducible refine And.intro ?_ ?_); (· first | omega | (simp only [List.length_take]; omega)); try simp -implicitDefEqProofs only [go_sem, *]) | first | ((with_reducible refine expG_one 21 ?_ ?_); (· decide +kernel); try simp -implicitDefEqProofs only [go_sem, *]) | ((with_reducible refine expG_one 22 ?_ ?_); (· decide +kernel); try simp -implicitDefEqProofs only [go_sem, *]) | ((with_reducible refine expG_one 23 ?_ ?_); (· decide +kernel); try simp -implicitDefEqProofs only [go_sem, *]) | ((with_reducible refine expG_end ?_ ?_); (· decide +kernel); try simp -implicitDefEqProofs only [go_sem, *]) | fail))
    refine cp_drawG (id := 4) 9 (fun S => getO S 13 = some ⟨5, [dW ⟨e.disk, e.mem, e.alog r, e.safe, e.down⟩]⟩ ∧ getO S 14 = some ⟨8, [rA r]⟩ ∧ getO S 15 = some ⟨3, [.agg [I q.lsn, I q.owner, .own 16 1 0 3]]⟩) mixed rfl ?_
    ((refine expG_get 0 (.ref 13 5 0 0) rfl ?_ ?_ (by repeat (first | rfl | refine And.intro rfl ?_)) ?_ ?_); (· decide +kernel); (· decide +kernel); (· (intro S hS0; simp -implicitDefEqProofs only [go_sem, hS0, *])); try simp -implicitDefEqProofs only [go_sem, List.set_cons_succ, List.set_cons_zero])
    ((refine expG_get 1 (.ref 13 5 0 0) rfl ?_ ?_ (by repeat (first | rfl | refine And.intro rfl ?_)) ?_ ?_); (· decide +kernel); (· decide +kernel); (· (intro S hS0; simp -implicitDefEqProofs only [go_sem, hS0, *])); try simp -implicitDefEqProofs only [go_sem, List.set_cons_succ, List.set_cons_zero])
    ((refine expG_get 2 (.ref 13 5 0 1) rfl ?_ ?_ (by repeat (first | rfl | refine And.intro rfl ?_)) ?_ ?_); (· decide +kernel); (· decide +kernel); (· (intro S hS0; simp -implicitDefEqProofs only [go_sem, hS0, *])); try simp -implicitDefEqProofs only [go_sem, List.set_cons_succ, List.set_cons_zero])
    ((refine expG_get 3 (.own 6 3 0 5) rfl ?_ ?_ (by repeat (first | rfl | refine And.intro rfl ?_)) ?_ ?_); (· decide +kernel); (· decide +kernel); (· (intro S hS0; simp -implicitDefEqProofs only [go_sem, hS0, *])); try simp -implicitDefEqProofs only [go_sem, List.set_cons_succ, List.set_cons_zero])
    ((refine expG_get 4 (.ref 14 8 0 2) rfl ?_ ?_ (by repeat (first | rfl | refine And.intro rfl ?_)) ?_ ?_); (· decide +kernel); (· decide +kernel); (· (intro S hS0; simp -implicitDefEqProofs only [go_sem, hS0, *])); try simp -implicitDefEqProofs only [go_sem, List.set_cons_succ, List.set_cons_zero])
    ((refine expG_get 5 (I (k : Int)) rfl ?_ ?_ (by repeat (first | rfl | refine And.intro rfl ?_)) ?_ ?_); (· decide +kernel); (· decide +kernel); (· (intro S hS0; simp -implicitDefEqProofs only [go_sem, hS0, *])); try simp -implicitDefEqProofs only [go_sem, List.set_cons_succ, List.set_cons_zero])
    ((refine expG_get 6 (.agg [I q.lsn, I q.owner, .own 16 1 0 3]) rfl ?_ ?_ (by repeat (first | rfl | refine And.intro rfl ?_)) ?_ ?_); (· decide +kernel); (· decide +kernel); (· (intro S hS0; simp -implicitDefEqProofs only [go_sem, hS0, *])); try simp -implicitDefEqProofs only [go_sem, List.set_cons_succ, List.set_cons_zero])
    ((with_reducible refine expG_one 7 ?_ ?_); (· decide +kernel); try simp -implicitDefEqProofs only [go_sem, *])
    (repeat' (first | ((with_reducible first | refine gon ?_ ?_ | refine gos ?_ ?_ | refine cdn ?_ ?_ | refine cds ?_ ?_ | refine gpn ?_ ?_ | refine gps ?_ ?_) <;> intro h <;> (try simp only [dt, df, gi, gt] at h) <;> try simp -implicitDefEqProofs only [go_sem, *]) | ((with_reducible refine And.intro ?_ ?_); (· first | omega | (simp only [List.length_take]; omega)); try simp -implicitDefEqProofs only [go_sem, *]) | fail))
    ((with_reducible refine expG_one 8 ?_ ?_); (· decide +kernel); try simp -implicitDefEqProofs only [go_sem, *])
    refine And.intro ⟨rfl, rfl, rfl⟩ ?_
    ((with_reducible refine expG_end ?_ ?_); (· decide +kernel); try simp -implicitDefEqProofs only [go_sem, *])
    (repeat' (first | ((with_reducible first | refine gon ?_ ?_ | refine gos ?_ ?_ | refine cdn ?_ ?_ | refine cds ?_ ?_ | refine gpn ?_ ?_ | refine gps ?_ ?_) <;> intro h <;> (try simp only [dt, df, gi, gt] at h) <;> try simp -implicitDefEqProofs only [go_sem, *]) | ((with_reducible refine And.intro ?_ ?_); (· first | omega | (simp only [List.length_take]; omega)); try simp -implicitDefEqProofs only [go_sem, *]) | fail))
    have := fin_mem16 (t0 := some ⟨8, [rA r]⟩) (t1 := some ⟨3, [.agg [I q.lsn, I q.owner, .own 16 1 0 3]]⟩) (a := q.lsn) (b := q.owner) (vals := q.vals) (n := 3) (p := k) (e := ⟨e.disk, e.mem, e.alog r, e.safe, e.down⟩) (s := e.safe) (r := .tup []) (mv := [12]) (Q := fun r' S' mv => r' = AV.tup [] ∧ S' = sD ⟨e.disk, e.mem.set k q, e.alog r, e.safe, e.down⟩ ∧ mv = M13) hk hd5 hm5 hqv.symm (.inl rfl) (.inr rfl) ⟨rfl, rfl, rfl⟩
    exact this
theorem applyD_no (e : Eng) (r : Rc) (k : Nat) (hk : k < 5) (hpg : r.page = (k : Int)) (hd : Sz e.disk) (hm : Sz e.mem) (hl : e.log.length ≤ 1000) (hdo : doB (at' e.mem (k : Int)) (e.rc r) ((e.log.length + 1 : Nat) : Int) = false) :
    AFn1 Tryz.prog 113 [.ref 13 5 0 0, rA r] (sD e) (.tup []) (sD ⟨e.disk, e.mem, e.alog r, e.safe, e.down⟩) [12] := by
  have hd5 := hd.len
  have hm5 := hm.len
  have hsz := hm.sz k hk
  have cA := addD e r hd hm hl
  have cR := RecDo_no (at' e.mem (k : Int)) (e.rc r) ((e.log.length + 1 : Nat) : Int) (by omega) hdo
  have hal := alog_len e r
  have hat := rc_at (e := e) (r := r)
  have hatd : at' (dps 7 e.mem) (k : Int) = ⟨7 + k, at' e.mem (k : Int)⟩ := dps_at (by omega)
  have hl2 : (dps 7 e.mem).length = 5 := by rw [dps_len, hm5]
  have hb : e.log.length + 1 < 4611686018427387904 := by omega
  have h5 : (k : Int) < 5 := by omega
  have hlt : e.log.length < e.log.length + 1 := by omega
  have hw1 : IntKind.i64.wrap (e.log.length : Int) = (e.log.length : Int) := wrap_ok (by omega) (by omega)
  have g13 : ∀ (e : Eng) T, getO (sD e ++ T) 13 = some ⟨5, [dW e]⟩ := fun e T => rfl
  have g14 : ∀ (e : Eng) o T, getO (sD e ++ some o :: T) 14 = some o := fun e o T => rfl
  have g6 : ∀ (e : Eng) T, getO (sD e ++ T) 6 = some ⟨3, (dps 7 e.mem).map dA⟩ := fun e T => rfl
  have g12 : ∀ (e : Eng) T, getO (sD e ++ T) 12 = some ⟨8, e.log.map rA⟩ := fun e T => rfl
  have g15 : ∀ (e : Eng) a o T, getO (sD e ++ a :: some o :: T) 15 = some o := fun e a o T => rfl
  have t15 : ∀ (e : Eng) a o x T, (sD e ++ a :: o :: T).set 15 x = sD e ++ a :: x :: T := fun e a o x T => rfl
  clear hdo
  refine afn1_of Tryz.func113 rfl rfl ?_
  simp -implicitDefEqProofs only [go_sem, Tryz.f113, sD_len, g13, g14]
  refine enter_sD (e' := ⟨e.disk, e.mem, e.alog r, e.safe, e.down⟩) (M := [12]) (B := [some ⟨8, [rA r]⟩]) cA rfl hd5 hm5 hd5 hm5 rfl rfl rfl rfl (by simp) rfl ?_
  simp -implicitDefEqProofs only [go_sem, scT, g13, g14]
  refine cp_drawG (id := 2) 24 (fun S => getO S 13 = some ⟨5, [dW ⟨e.disk, e.mem, e.alog r, e.safe, e.down⟩]⟩ ∧ getO S 6 = some ⟨3, (dps 7 e.mem).map dA⟩ ∧ getO S 12 = some ⟨8, (e.alog r).map rA⟩ ∧ getO S 14 = some ⟨8, [rA r]⟩) mixed rfl ?_
  ((refine expG_get 0 (.ref 13 5 0 0) rfl ?_ ?_ (by repeat (first | rfl | refine And.intro rfl ?_)) ?_ ?_); (· decide +kernel); (· decide +kernel); (· (intro S hS0; simp -implicitDefEqProofs only [go_sem, hS0, *])); try simp -implicitDefEqProofs only [go_sem, List.set_cons_succ, List.set_cons_zero])
  ((refine expG_get 1 (.ref 13 5 0 0) rfl ?_ ?_ (by repeat (first | rfl | refine And.intro rfl ?_)) ?_ ?_); (· decide +kernel); (· decide +kernel); (· (intro S hS0; simp -implicitDefEqProofs only [go_sem, hS0, *])); try simp -implicitDefEqProofs only [go_sem, List.set_cons_succ, List.set_cons_zero])
  ((refine expG_get 2 (.ref 13 5 0 1) rfl ?_ ?_ (by repeat (first | rfl | refine And.intro rfl ?_)) ?_ ?_); (· decide +kernel); (· decide +kernel); (· (intro S hS0; simp -implicitDefEqProofs only [go_sem, hS0, *])); try simp -implicitDefEqProofs only [go_sem, List.set_cons_succ, List.set_cons_zero])
  ((refine expG_get 3 (.own 6 3 0 5) rfl ?_ ?_ (by repeat (first | rfl | refine And.intro rfl ?_)) ?_ ?_); (· decide +kernel); (· decide +kernel); (· (intro S hS0; simp -implicitDefEqProofs only [go_sem, hS0, *])); try simp -implicitDefEqProofs only [go_sem, List.set_cons_succ, List.set_cons_zero])
  ((refine expG_get 4 (.ref 14 8 0 2) rfl ?_ ?_ (by repeat (first | rfl | refine And.intro rfl ?_)) ?_ ?_); (· decide +kernel); (· decide +kernel); (· (intro S hS0; simp -implicitDefEqProofs only [go_sem, hS0, *])); try simp -implicitDefEqProofs only [go_sem, List.set_cons_succ, List.set_cons_zero])
  ((refine expG_get 5 (I (k : Int)) rfl ?_ ?_ (by repeat (first | rfl | refine And.intro rfl ?_)) ?_ ?_); (· decide +kernel); (· decide +kernel); (· (intro S hS0; simp -implicitDefEqProofs only [go_sem, hS0, *])); try simp -implicitDefEqProofs only [go_sem, List.set_cons_succ, List.set_cons_zero])
  ((refine expG_get 6 (.ref 6 3 k 0) rfl ?_ ?_ (by repeat (first | rfl | refine And.intro rfl ?_)) ?_ ?_); (· decide +kernel); (· decide +kernel); (· (intro S hS0; simp -implicitDefEqProofs only [go_sem, hS0, *])); try simp -implicitDefEqProofs only [go_sem, List.set_cons_succ, List.set_cons_zero])
  ((refine expG_get 7 (.agg [I (at' e.mem (k : Int)).lsn, I (at' e.mem (k : Int)).owner, .own (7 + k) 1 0 3]) rfl ?_ ?_ (by repeat (first | rfl | refine And.intro rfl ?_)) ?_ ?_); (· decide +kernel); (· decide +kernel); (· (intro S hS0; simp -implicitDefEqProofs only [go_sem, hS0, *])); try simp -implicitDefEqProofs only [go_sem, List.set_cons_succ, List.set_cons_zero])
  ((refine expG_get 8 (.ref 13 5 0 0) rfl ?_ ?_ (by repeat (first | rfl | refine And.intro rfl ?_)) ?_ ?_); (· decide +kernel); (· decide +kernel); (· (intro S hS0; simp -implicitDefEqProofs only [go_sem, hS0, *])); try simp -implicitDefEqProofs only [go_sem, List.set_cons_succ, List.set_cons_zero])
  ((refine expG_get 9 (.ref 13 5 0 0) rfl ?_ ?_ (by repeat (first | rfl | refine And.intro rfl ?_)) ?_ ?_); (· decide +kernel); (· decide +kernel); (· (intro S hS0; simp -implicitDefEqProofs only [go_sem, hS0, *])); try simp -implicitDefEqProofs only [go_sem, List.set_cons_succ, List.set_cons_zero])
  ((refine expG_get 10 (.ref 13 5 0 2) rfl ?_ ?_ (by repeat (first | rfl | refine And.intro rfl ?_)) ?_ ?_); (· decide +kernel); (· decide +kernel); (· (intro S hS0; simp -implicitDefEqProofs only [go_sem, hS0, *])); try simp -implicitDefEqProofs only [go_sem, List.set_cons_succ, List.set_cons_zero])
  ((refine expG_get 11 (.own 12 8 0 (e.log.length + 1)) rfl ?_ ?_ (by repeat (first | rfl | refine And.intro rfl ?_)) ?_ ?_); (· decide +kernel); (· decide +kernel); (· (intro S hS0; simp -implicitDefEqProofs only [go_sem, hS0, *])); try simp -implicitDefEqProofs only [go_sem, List.set_cons_succ, List.set_cons_zero])
  ((refine expG_get 12 (I ((e.log.length + 1 : Nat) : Int)) rfl ?_ ?_ (by repeat (first | rfl | refine And.intro rfl ?_)) ?_ ?_); (· decide +kernel); (· decide +kernel); (· (intro S hS0; simp -implicitDefEqProofs only [go_sem, hS0, *])); try simp -implicitDefEqProofs only [go_sem, List.set_cons_succ, List.set_cons_zero])
  ((refine expG_get 13 (I (e.log.length : Int)) rfl ?_ ?_ (by repeat (first | rfl | refine And.intro rfl ?_)) ?_ ?_); (· decide +kernel); (· decide +kernel); (· (intro S hS0; simp -implicitDefEqProofs only [go_sem, hS0, *])); try simp -implicitDefEqProofs only [go_sem, List.set_cons_succ, List.set_cons_zero])
  ((refine expG_get 14 (.ref 12 8 e.log.length 0) rfl ?_ ?_ (by repeat (first | rfl | refine And.intro rfl ?_)) ?_ ?_); (· decide +kernel); (· decide +kernel); (· (intro S hS0; simp -implicitDefEqProofs only [go_sem, hS0, *])); try simp -implicitDefEqProofs only [go_sem, List.set_cons_succ, List.set_cons_zero])
  ((refine expG_get 15 (rA (e.rc r)) rfl ?_ ?_ (by repeat (first | rfl | refine And.intro rfl ?_)) ?_ ?_); (· decide +kernel); (· decide +kernel); (· (intro S hS0; simp -implicitDefEqProofs only [go_sem, hS0, *])); try simp -implicitDefEqProofs only [go_sem, List.set_cons_succ, List.set_cons_zero])
  ((refine expG_get 16 (I ((e.log.length + 1 : Nat) : Int)) rfl ?_ ?_ (by repeat (first | rfl | refine And.intro rfl ?_)) ?_ ?_); (· decide +kernel); (· decide +kernel); (· (intro S hS0; simp -implicitDefEqProofs only [go_sem, hS0, *])); try simp -implicitDefEqProofs only [go_sem, List.set_cons_succ, List.set_cons_zero])
  ((with_reducible refine expG_two 17 21 ?_ ?_ ?_); (· decide +kernel); all_goals (try simp -implicitDefEqProofs only [go_sem, *]))
  · refine enter_see cR (.cons _ _ _ _ (see_page (sD_mem (e := ⟨e.disk, e.mem, e.alog r, e.safe, e.down⟩) hk _) hsz.symm) (.cons _ _ _ _ (see_same rfl) (.cons _ _ _ _ (see_same rfl) .nil))) rfl (fun o ho => by cases ho) ?_
    simp -implicitDefEqProofs only [go_sem, *]
    ((refine expG_get 18 (.tup [.agg [I 0, I 0, .prim (.slice none 0 0)], Bo false]) rfl ?_ ?_ (by repeat (first | rfl | refine And.intro rfl ?_)) ?_ ?_); (· decide +kernel); (· decide +kernel); (· (intro S hS0; simp -implicitDefEqProofs only [go_sem, hS0, *])); try simp -implicitDefEqProofs only [go_sem, List.set_cons_succ, List.set_cons_zero])
    ((refine expG_get 19 (.agg [I 0, I 0, .prim (.slice none 0 0)]) rfl ?_ ?_ (by repeat (first | rfl | refine And.intro rfl ?_)) ?_ ?_); (· decide +kernel); (· decide +kernel); (· (intro S hS0; simp -implicitDefEqProofs only [go_sem, hS0, *])); try simp -implicitDefEqProofs only [go_sem, List.set_cons_succ, List.set_cons_zero])
    ((refine expG_get 20 (Bo false) rfl ?_ ?_ (by repeat (first | rfl | refine And.intro rfl ?_)) ?_ ?_); (· decide +kernel); (· decide +kernel); (· (intro S hS0; simp -implicitDefEqProofs only [go_sem, hS0, *])); try simp -implicitDefEqProofs only [go_sem, List.set_cons_succ, List.set_cons_zero])
    (repeat' (first | ((with_reducible first | refine gon ?_ ?_ | refine gos ?_ ?_ | refine cdn ?_ ?_ | refine cds ?_ ?_ | refine gpn ?_ ?_ | refine gps ?_ ?_) <;> intro h <;> (try simp only [dt, df, gi, gt] at h) <;> try simp -implicitDefEqProofs only [go_sem, *]) | ((with_reducible refine And.intro ?_ ?_); (· first | omega | (simp only [List.length_take]; omega)); try simp -implicitDefEqProofs only [go_sem, *]) | first | ((with_reducible refine expG_one 21 ?_ ?_); (· decide +kernel); try simp -implicitDefEqProofs only [go_sem, *]) | ((with_reducible refine expG_one 22 ?_ ?_); (· decide +kernel); try simp -implicitDefEqProofs only [go_sem, *]) | ((with_reducible refine expG_one 23 ?_ ?_); (· decide +kernel); try simp -implicitDefEqProofs only [go_sem, *]) | ((with_reducible refine expG_end ?_ ?_); (· decide +kernel); try simp -implicitDefEqProofs only [go_sem, *]) | fail))
    exact fin_sD (e := ⟨e.disk, e.mem, e.alog r, e.safe, e.down⟩) hd5 hm5 rfl ⟨rfl, rfl, rfl⟩
  · ((with_reducible refine expG_one 17 ?_ ?_); (· decide +kernel); try simp -implicitDefEqProofs only [go_sem, *])
    refine enter_see cR (.cons _ _ _ _ (see_page (sD_mem (e := ⟨e.disk, e.mem, e.alog r, e.safe, e.down⟩) hk _) hsz.symm) (.cons _ _ _ _ (see_same rfl) (.cons _ _ _ _ (see_same rfl) .nil))) rfl (fun o ho => by cases ho) ?_
    simp -implicitDefEqProofs only [go_sem, *]
    ((refine expG_get 18 (.tup [.agg [I 0, I 0, .prim (.slice none 0 0)], Bo false]) rfl ?_ ?_ (by repeat (first | rfl | refine And.intro rfl ?_)) ?_ ?_); (· decide +kernel); (· decide +kernel); (· (intro S hS0; simp -implicitDefEqProofs only [go_sem, hS0, *])); try simp -implicitDefEqProofs only [go_sem, List.set_cons_succ, List.set_cons_zero])
    ((refine expG_get 19 (.agg [I 0, I 0, .prim (.slice none 0 0)]) rfl ?_ ?_ (by repeat (first | rfl | refine And.intro rfl ?_)) ?_ ?_); (· decide +kernel); (· decide +kernel); (· (intro S hS0; simp -implicitDefEqProofs only [go_sem, hS0, *])); try simp -implicitDefEqProofs only [go_sem, List.set_cons_succ, List.set_cons_zero])
    ((refine expG_get 20 (Bo false) rfl ?_ ?_ (by repeat (first | rfl | refine And.intro rfl ?_)) ?_ ?_); (· decide +kernel); (· decide +kernel); (· (intro S hS0; simp -implicitDefEqProofs only [go_sem, hS0, *])); try simp -implicitDefEqProofs only [go_sem, List.set_cons_succ, List.set_cons_zero])
    (repeat' (first | ((with_reducible first | refine gon ?_ ?_ | refine gos ?_ ?_ | refine cdn ?_ ?_ | refine cds ?_ ?_ | refine gpn ?_ ?_ | refine gps ?_ ?_) <;> intro h <;> (try simp only [dt, df, gi, gt] at h) <;> try simp -implicitDefEqProofs only [go_sem, *]) | ((with_reducible refine And.intro ?_ ?_); (· first | omega | (simp only [List.length_take]; omega)); try simp -implicitDefEqProofs only [go_sem, *]) | first | ((with_reducible refine expG_one 21 ?_ ?_); (· decide +kernel); try simp -implicitDefEqProofs only [go_sem, *]) | ((with_reducible refine expG_one 22 ?_ ?_); (· decide +kernel); try simp -implicitDefEqProofs only [go_sem, *]) | ((with_reducible refine expG_one 23 ?_ ?_); (· decide +kernel); try simp -implicitDefEqProofs only [go_sem, *]) | ((with_reducible refine expG_end ?_ ?_); (· decide +kernel); try simp -implicitDefEqProofs only [go_sem, *]) | fail))
    exact fin_sD (e := ⟨e.disk, e.mem, e.alog r, e.safe, e.down⟩) hd5 hm5 rfl ⟨rfl, rfl, rfl⟩
end
section
attribute [local go_sem] slt_r slt_I slt_p
def cells (e : Eng) : List D := [.sl 3 (e.disk.map pD), .sl 3 (e.mem.map pD), .sl 8 (e.log.map rD), iD e.safe, .prim (.bool e.down)]
theorem see_ptr {S : Store} {e : Eng} {i a b c n m k : Nat} (ha : Sees S true (.own a 3 0 n) (pgs e.disk)) (hb : Sees S true (.own b 3 0 m) (pgs e.mem)) (hc : Sees S true (.own c 8 0 k) (recs e.log))
    (ho : getO S i = some ⟨5, [.agg [.own a 3 0 n, .own b 3 0 m, .own c 8 0 k, I e.safe, Bo e.down]]⟩) : Sees S true (.ref i 5 0 0) (.ro (cells e)) := by
  refine see_ref ho rfl (by simp) (by decide) rfl ?_ ?_
  · intro j d hd
    rw [Nat.zero_add]
    rcases j with _ | _ | _ | _ | _ | j
    · cases hd; exact ⟨_, rfl, ha⟩
    · cases hd; exact ⟨_, rfl, hb⟩
    · cases hd; exact ⟨_, rfl, hc⟩
    · cases hd; exact ⟨_, rfl, see_same rfl⟩
    · cases hd; exact ⟨_, rfl, see_same rfl⟩
    · cases hd
  · intro d hd
    simp only [cells, List.mem_cons, List.not_mem_nil, or_false] at hd
    rcases hd with rfl | rfl | rfl | rfl | rfl <;> rfl
theorem see_caps {S : Store} : ∀ {caps : List AV}, caps.all AV.pur0 = true → All2 (Sees S true) caps caps
  | [], _ => .nil
  | x :: xs, h => by
    rw [List.all_cons, Bool.and_eq_true] at h
    refine .cons _ _ _ _ (see_same ?_) (see_caps h.2)
    have h1 := h.1
    cases x <;> simp [AV.pur0] at h1 <;> rfl
theorem has_two {o1 o2 : Option AObj} {X T : Store} : Has (o1 :: o2 :: (X ++ T)) 2 X := by
  have : o1 :: o2 :: (X ++ T) = [o1, o2] ++ (X ++ T) := rfl
  rw [this]
  exact has_mid rfl
/-- The engine that change has of its own, as its callees see it. -/
theorem see_15 {o1 o2 : Option AObj} {T : Store} {e : Eng} (hd : e.disk.length = 5) (hm : e.mem.length = 5) (bb : Bool) (hb : e.down = bb) :
    Sees (o1 :: o2 :: (s13 2 e ++ some ⟨5, [.agg [.own 2 3 0 5, .own 8 3 0 5, .own 14 8 0 e.log.length, I e.safe, Bo bb]]⟩ :: T)) true (.ref 15 5 0 0) (.ro (cells e)) := by
  subst hb
  obtain ⟨S, hS⟩ : ∃ S, S = o1 :: o2 :: (s13 2 e ++ some ⟨5, [.agg [.own 2 3 0 5, .own 8 3 0 5, .own 14 8 0 e.log.length, I e.safe, Bo e.down]]⟩ :: T) := ⟨_, rfl⟩
  have hh : Has S 2 (s13 2 e) := by rw [hS]; exact has_two
  have g15 : getO S 15 = some ⟨5, [.agg [.own 2 3 0 5, .own 8 3 0 5, .own 14 8 0 e.log.length, I e.safe, Bo e.down]]⟩ := by rw [hS]; rfl
  have g14 : getO S 14 = some ⟨8, e.log.map rA⟩ := by rw [hS]; rfl
  rw [← hS]
  rw [← dS_13 hd hm] at hh
  unfold dS at hh
  have h2 := hh.right
  rw [dP_len, hd] at h2
  exact see_ptr (see_dP hh.left hd.symm) (see_dP h2.left hm.symm) (see_recs g14 rfl) g15
/-- What changing hands back, when it is done. -/
theorem change_ok (e : Eng) (tx page : Int) (g1 g2 : FuncId) (caps1 caps2 : List AV) (e' : Eng) (hok : okE e = true) (hs : e.small) (hmay : mayB e tx page = true) (hd' : e'.disk.length = 5) (hm' : e'.mem.length = 5)
    (hc1 : caps1.all AV.pur0 = true) (hc2 : caps2.all AV.pur0 = true) (hh : Fn1 Tryz.prog g1 (.ro (cells e) :: caps1) (Bo true)) (hw : AFn1 Tryz.prog g2 (.ref 13 5 0 0 :: caps2) (sD e) (.tup []) (sD e') M13)
    (hwf : Wf e'.log) (hf : e'.log.length + needTo e'.log 3 ≤ 150) :
    Fn Tryz.prog 107 [eA e, I tx, I page, .clo g1 caps1, .clo g2 caps2] (fun r S => r = dR (e', true) ∧ S = dS 0 e') := by
  have hi := inv_of_ok hok
  have hlen := hi.len
  have hd5 := hi.disk.len
  have hm5 := hi.mem.len
  have c1 := okI e hs
  rw [hok] at c1
  have c2 := copiedE_deep e hi.disk.sz hi.mem.sz (by omega)
  have c3 : Fn1 Tryz.prog 118 [.ro (cells e), I tx, I page] (Bo true) := by
    have := mayI_fn lastC (pagesC lastC) e tx page hi.wf
    rw [may_eq hok, hmay] at this
    exact this
  have c4 := fits_fn lastC e'.log hwf
  rw [decide_eq_true hf] at c4
  obtain ⟨d, hdn⟩ : ∃ d, e.down = d := ⟨_, rfl⟩
  replace hdn := Hid.mk' hdn
  clear hok hi
  refine fn_of Tryz.func107 rfl rfl ?_
  simp -implicitDefEqProofs only [go_sem, Tryz.f107]
  (repeat' (first | ((with_reducible first | refine gon ?_ ?_ | refine gos ?_ ?_ | refine cdn ?_ ?_ | refine cds ?_ ?_ | refine gpn ?_ ?_ | refine gps ?_ ?_) <;> intro h <;> (try simp only [dt, df, gi, gt] at h) <;> try simp -implicitDefEqProofs only [go_sem, *]) | ((with_reducible refine And.intro ?_ ?_); (· first | omega | (simp only [List.length_take]; omega)); try simp -implicitDefEqProofs only [go_sem, *]) | ((with_reducible refine enter_pu (c1) ?_ ?_ ?_); (· rfl); (· rfl); try simp -implicitDefEqProofs only [go_sem, *])))
  refine enter_fnE 2 8 14 rfl (by omega) (by omega) c2 rfl ?_
  intro A hA
  rw [dS_13 hd5 hm5] at hA
  subst hA
  simp only [s13, dV, hd5, hm5, List.cons_append, List.nil_append]
  simp -implicitDefEqProofs only [go_sem, true_and]
  refine enter_see1 c3 (.cons _ _ _ _ (see_15 hd5 hm5 _ rfl) (.cons _ _ _ _ (see_same rfl) (.cons _ _ _ _ (see_same rfl) .nil))) rfl rfl ?_
  simp -implicitDefEqProofs only [go_sem, true_and]
  refine enter_see1 hh (.cons _ _ _ _ (see_15 hd5 hm5 _ rfl) (see_caps hc1)) rfl rfl ?_
  simp -implicitDefEqProofs only [go_sem, true_and]
  refine enter_midM 2 (A := [_, _]) (X0 := sD e) (X1 := sD e') (B := []) (args' := .ref 13 5 0 0 :: caps2) [2, 3, 4, 5, 6, 7, 8, 9, 10, 11, 12, 13, 14] hw (by rw [sh_sD]; rfl) rfl rfl (cl_sD hd5 hm5) (cl_sD hd' hm') rfl ?_ ?_ (by rw [sD_len]; decide) rfl rfl rfl ?_
  · rw [List.map_cons, sh_caps hc2]
    rfl
  · rw [List.all_cons, sD_len, cl_caps hc2]
    rfl
  rw [sh_sD]
  simp only [s13, scT, List.cons_append, List.nil_append]
  have hs15 : ∀ k, AV.sc [2, 3, 4, 5, 6, 7, 8, 9, 10, 11, 12, 13, 14] (.ref 15 5 0 k) = .ref 15 5 0 k := fun k => rfl
  have hs1 : ∀ k, AV.sc [2, 3, 4, 5, 6, 7, 8, 9, 10, 11, 12, 13, 14] (.ref 1 5 0 k) = .ref 1 5 0 k := fun k => rfl
  have hs0 : ∀ k, AV.sc [2, 3, 4, 5, 6, 7, 8, 9, 10, 11, 12, 13, 14] (.ref 0 5 0 k) = .ref 0 5 0 k := fun k => rfl
  simp -implicitDefEqProofs only [go_sem, hs15, hs1, hs0]
  refine enter_see1 c4 (.cons _ _ _ _ (see_recs rfl rfl) .nil) rfl rfl ?_
  simp -implicitDefEqProofs only [go_sem, true_and]
  exact fin_dE5 e' hd' hm'
theorem change_full (e : Eng) (tx page : Int) (g1 g2 : FuncId) (caps1 caps2 : List AV) (e' : Eng) (hok : okE e = true) (hs : e.small) (hmay : mayB e tx page = true) (hd' : e'.disk.length = 5) (hm' : e'.mem.length = 5)
    (hc1 : caps1.all AV.pur0 = true) (hc2 : caps2.all AV.pur0 = true) (hh : Fn1 Tryz.prog g1 (.ro (cells e) :: caps1) (Bo true)) (hw : AFn1 Tryz.prog g2 (.ref 13 5 0 0 :: caps2) (sD e) (.tup []) (sD e') M13)
    (hwf : Wf e'.log) (hf : ¬ (e'.log.length + needTo e'.log 3 ≤ 150)) :
    Fn Tryz.prog 107 [eA e, I tx, I page, .clo g1 caps1, .clo g2 caps2] (fun r S => r = dR (e, false) ∧ S = dS 0 e) := by
  have hi := inv_of_ok hok
  have hlen := hi.len
  have hd5 := hi.disk.len
  have hm5 := hi.mem.len
  have c1 := okI e hs
  rw [hok] at c1
  have c2 := copiedE_deep e hi.disk.sz hi.mem.sz (by omega)
  have c3 : Fn1 Tryz.prog 118 [.ro (cells e), I tx, I page] (Bo true) := by
    have := mayI_fn lastC (pagesC lastC) e tx page hi.wf
    rw [may_eq hok, hmay] at this
    exact this
  have c4 := fits_fn lastC e'.log hwf
  rw [decide_eq_false hf] at c4
  obtain ⟨d, hdn⟩ : ∃ d, e.down = d := ⟨_, rfl⟩
  replace hdn := Hid.mk' hdn
  clear hok hi
  refine fn_of Tryz.func107 rfl rfl ?_
  simp -implicitDefEqProofs only [go_sem, Tryz.f107]
  (repeat' (first | ((with_reducible first | refine gon ?_ ?_ | refine gos ?_ ?_ | refine cdn ?_ ?_ | refine cds ?_ ?_ | refine gpn ?_ ?_ | refine gps ?_ ?_) <;> intro h <;> (try simp only [dt, df, gi, gt] at h) <;> try simp -implicitDefEqProofs only [go_sem, *]) | ((with_reducible refine And.intro ?_ ?_); (· first | omega | (simp only [List.length_take]; omega)); try simp -implicitDefEqProofs only [go_sem, *]) | ((with_reducible refine enter_pu (c1) ?_ ?_ ?_); (· rfl); (· rfl); try simp -implicitDefEqProofs only [go_sem, *])))
  refine enter_fnE 2 8 14 rfl (by omega) (by omega) c2 rfl ?_
  intro A hA
  rw [dS_13 hd5 hm5] at hA
  subst hA
  simp only [s13, dV, hd5, hm5, List.cons_append, List.nil_append]
  simp -implicitDefEqProofs only [go_sem, true_and]
  refine enter_see1 c3 (.cons _ _ _ _ (see_15 hd5 hm5 _ rfl) (.cons _ _ _ _ (see_same rfl) (.cons _ _ _ _ (see_same rfl) .nil))) rfl rfl ?_
  simp -implicitDefEqProofs only [go_sem, true_and]
  refine enter_see1 hh (.cons _ _ _ _ (see_15 hd5 hm5 _ rfl) (see_caps hc1)) rfl rfl ?_
  simp -implicitDefEqProofs only [go_sem, true_and]
  refine enter_midM 2 (A := [_, _]) (X0 := sD e) (X1 := sD e') (B := []) (args' := .ref 13 5 0 0 :: caps2) [2, 3, 4, 5, 6, 7, 8, 9, 10, 11, 12, 13, 14] hw (by rw [sh_sD]; rfl) rfl rfl (cl_sD hd5 hm5) (cl_sD hd' hm') rfl ?_ ?_ (by rw [sD_len]; decide) rfl rfl rfl ?_
  · rw [List.map_cons, sh_caps hc2]
    rfl
  · rw [List.all_cons, sD_len, cl_caps hc2]
    rfl
  rw [sh_sD]
  simp only [s13, scT, List.cons_append, List.nil_append]
  have hs15 : ∀ k, AV.sc [2, 3, 4, 5, 6, 7, 8, 9, 10, 11, 12, 13, 14] (.ref 15 5 0 k) = .ref 15 5 0 k := fun k => rfl
  have hs1 : ∀ k, AV.sc [2, 3, 4, 5, 6, 7, 8, 9, 10, 11, 12, 13, 14] (.ref 1 5 0 k) = .ref 1 5 0 k := fun k => rfl
  have hs0 : ∀ k, AV.sc [2, 3, 4, 5, 6, 7, 8, 9, 10, 11, 12, 13, 14] (.ref 0 5 0 k) = .ref 0 5 0 k := fun k => rfl
  simp -implicitDefEqProofs only [go_sem, hs15, hs1, hs0]
  refine enter_see1 c4 (.cons _ _ _ _ (see_recs rfl rfl) .nil) rfl rfl ?_
  simp -implicitDefEqProofs only [go_sem, true_and]
  obtain ⟨T, hT⟩ : ∃ T, T = dS 16 e := ⟨_, rfl⟩
  refine enter_fnE 16 22 28 rfl (by omega) (by omega) c2 rfl ?_
  intro A hA
  rw [← hT] at hA
  subst hA
  simp only [dV, hd5, hm5, List.cons_append, List.nil_append]
  simp -implicitDefEqProofs only [go_sem, true_and]
  have key : ∀ {S : Store} {mv : List Nat}, S.drop 16 = dS 16 e → 16 ≤ S.length → Fin 0 (.tup [.agg [.own 16 3 0 5, .own 22 3 0 5, .own 28 8 0 e.log.length, I e.safe, Bo e.down], Bo false]) S mv (fun r S' mv => (r = dR (e, false) ∧ S' = dS 0 e) ∧ mv = []) := fun {S mv} h1 h2 => by
    have := fin_dVd (mv := mv) 16 22 28 e (bb := false) h1 h2 (by omega) (by omega)
    rw [dV, hd5, hm5] at this
    exact this
  refine key ?_ (by simp)
  rw [← hT]
  rfl
theorem change_hold (e : Eng) (tx page : Int) (g1 g2 : FuncId) (caps1 caps2 : List AV) (hok : okE e = true) (hs : e.small) (hmay : mayB e tx page = true)
    (hc1 : caps1.all AV.pur0 = true) (hh : Fn1 Tryz.prog g1 (.ro (cells e) :: caps1) (Bo false)) :
    Fn Tryz.prog 107 [eA e, I tx, I page, .clo g1 caps1, .clo g2 caps2] (fun r S => r = dR (e, false) ∧ S = dS 0 e) := by
  have hi := inv_of_ok hok
  have hlen := hi.len
  have hd5 := hi.disk.len
  have hm5 := hi.mem.len
  have c1 := okI e hs
  rw [hok] at c1
  have c2 := copiedE_deep e hi.disk.sz hi.mem.sz (by omega)
  have c3 : Fn1 Tryz.prog 118 [.ro (cells e), I tx, I page] (Bo true) := by
    have := mayI_fn lastC (pagesC lastC) e tx page hi.wf
    rw [may_eq hok, hmay] at this
    exact this
  obtain ⟨d, hdn⟩ : ∃ d, e.down = d := ⟨_, rfl⟩
  replace hdn := Hid.mk' hdn
  clear hok hi
  refine fn_of Tryz.func107 rfl rfl ?_
  simp -implicitDefEqProofs only [go_sem, Tryz.f107]
  (repeat' (first | ((with_reducible first | refine gon ?_ ?_ | refine gos ?_ ?_ | refine cdn ?_ ?_ | refine cds ?_ ?_ | refine gpn ?_ ?_ | refine gps ?_ ?_) <;> intro h <;> (try simp only [dt, df, gi, gt] at h) <;> try simp -implicitDefEqProofs only [go_sem, *]) | ((with_reducible refine And.intro ?_ ?_); (· first | omega | (simp only [List.length_take]; omega)); try simp -implicitDefEqProofs only [go_sem, *]) | ((with_reducible refine enter_pu (c1) ?_ ?_ ?_); (· rfl); (· rfl); try simp -implicitDefEqProofs only [go_sem, *])))
  refine enter_fnE 2 8 14 rfl (by omega) (by omega) c2 rfl ?_
  intro A hA
  rw [dS_13 hd5 hm5] at hA
  subst hA
  simp only [s13, dV, hd5, hm5, List.cons_append, List.nil_append]
  simp -implicitDefEqProofs only [go_sem, true_and]
  refine enter_see1 c3 (.cons _ _ _ _ (see_15 hd5 hm5 _ rfl) (.cons _ _ _ _ (see_same rfl) (.cons _ _ _ _ (see_same rfl) .nil))) rfl rfl ?_
  simp -implicitDefEqProofs only [go_sem, true_and]
  refine enter_see1 hh (.cons _ _ _ _ (see_15 hd5 hm5 _ rfl) (see_caps hc1)) rfl rfl ?_
  simp -implicitDefEqProofs only [go_sem, true_and]
  exact fin_dE5 e hd5 hm5
theorem change_may (e : Eng) (tx page : Int) (g1 g2 : FuncId) (caps1 caps2 : List AV) (hok : okE e = true) (hs : e.small) (hmay : mayB e tx page = false)
    :
    Fn Tryz.prog 107 [eA e, I tx, I page, .clo g1 caps1, .clo g2 caps2] (fun r S => r = dR (e, false) ∧ S = dS 0 e) := by
  have hi := inv_of_ok hok
  have hlen := hi.len
  have hd5 := hi.disk.len
  have hm5 := hi.mem.len
  have c1 := okI e hs
  rw [hok] at c1
  have c2 := copiedE_deep e hi.disk.sz hi.mem.sz (by omega)
  have c3 : Fn1 Tryz.prog 118 [.ro (cells e), I tx, I page] (Bo false) := by
    have := mayI_fn lastC (pagesC lastC) e tx page hi.wf
    rw [may_eq hok, hmay] at this
    exact this
  obtain ⟨d, hdn⟩ : ∃ d, e.down = d := ⟨_, rfl⟩
  replace hdn := Hid.mk' hdn
  clear hok hi
  refine fn_of Tryz.func107 rfl rfl ?_
  simp -implicitDefEqProofs only [go_sem, Tryz.f107]
  (repeat' (first | ((with_reducible first | refine gon ?_ ?_ | refine gos ?_ ?_ | refine cdn ?_ ?_ | refine cds ?_ ?_ | refine gpn ?_ ?_ | refine gps ?_ ?_) <;> intro h <;> (try simp only [dt, df, gi, gt] at h) <;> try simp -implicitDefEqProofs only [go_sem, *]) | ((with_reducible refine And.intro ?_ ?_); (· first | omega | (simp only [List.length_take]; omega)); try simp -implicitDefEqProofs only [go_sem, *]) | ((with_reducible refine enter_pu (c1) ?_ ?_ ?_); (· rfl); (· rfl); try simp -implicitDefEqProofs only [go_sem, *])))
  refine enter_fnE 2 8 14 rfl (by omega) (by omega) c2 rfl ?_
  intro A hA
  rw [dS_13 hd5 hm5] at hA
  subst hA
  simp only [s13, dV, hd5, hm5, List.cons_append, List.nil_append]
  simp -implicitDefEqProofs only [go_sem, true_and]
  refine enter_see1 c3 (.cons _ _ _ _ (see_15 hd5 hm5 _ rfl) (.cons _ _ _ _ (see_same rfl) (.cons _ _ _ _ (see_same rfl) .nil))) rfl rfl ?_
  simp -implicitDefEqProofs only [go_sem, true_and]
  exact fin_dE5 e hd5 hm5
theorem change_bad (e : Eng) (tx page : Int) (g1 g2 : FuncId) (caps1 caps2 : List AV) (hok : okE e = false) (hs : e.small) :
    Fn Tryz.prog 107 [eA e, I tx, I page, .clo g1 caps1, .clo g2 caps2] (fun r S => r = .tup [zA, Bo false] ∧ S = []) := by
  have c1 := okI e hs
  rw [hok] at c1
  refine fn_of Tryz.func107 rfl rfl ?_
  simp -implicitDefEqProofs only [go_sem, Tryz.f107]
  (repeat' (first | ((with_reducible first | refine gon ?_ ?_ | refine gos ?_ ?_ | refine cdn ?_ ?_ | refine cds ?_ ?_ | refine gpn ?_ ?_ | refine gps ?_ ?_) <;> intro h <;> (try simp only [dt, df, gi, gt] at h) <;> try simp -implicitDefEqProofs only [go_sem, *]) | ((with_reducible refine And.intro ?_ ?_); (· first | omega | (simp only [List.length_take]; omega)); try simp -implicitDefEqProofs only [go_sem, *]) | ((with_reducible refine enter_pu (c1) ?_ ?_ ?_); (· rfl); (· rfl); try simp -implicitDefEqProofs only [go_sem, *])))
  exact fin_z
end
section
attribute [local go_sem] slt_r slt_I slt_p
theorem PageEmptyI_fn (p : Pg) (hb : p.vals.length < 4611686018427387904) : Fn1 Tryz.prog 104 [pA p] (Bo (p.ok && allZero p.vals)) := by
  have c1 := PageOkI_fn p hb
  have c2 := allZero_fn p.vals hb
  refine fn1_of Tryz.func104 rfl rfl ?_
  rcases h : p.ok with _ | _
  · rw [h] at c1
    simp -implicitDefEqProofs only [go_sem, Tryz.f104]
    (repeat' (first | ((with_reducible first | refine gon ?_ ?_ | refine gos ?_ ?_ | refine cdn ?_ ?_ | refine cds ?_ ?_ | refine gpn ?_ ?_ | refine gps ?_ ?_) <;> intro h <;> (try simp only [dt, df, gi, gt] at h) <;> try simp -implicitDefEqProofs only [go_sem, *]) | ((with_reducible refine And.intro ?_ ?_); (· first | omega | (simp only [List.length_take]; omega)); try simp -implicitDefEqProofs only [go_sem, *]) | first | ((with_reducible refine enter_pu (c1) ?_ ?_ ?_); (· rfl); (· rfl); try simp -implicitDefEqProofs only [go_sem, *]) | ((with_reducible refine enter_pu (c2) ?_ ?_ ?_); (· rfl); (· rfl); try simp -implicitDefEqProofs only [go_sem, *])))
    all_goals exact fin_pu rfl rfl
  · rw [h] at c1
    simp -implicitDefEqProofs only [go_sem, Tryz.f104]
    (repeat' (first | ((with_reducible first | refine gon ?_ ?_ | refine gos ?_ ?_ | refine cdn ?_ ?_ | refine cds ?_ ?_ | refine gpn ?_ ?_ | refine gps ?_ ?_) <;> intro h <;> (try simp only [dt, df, gi, gt] at h) <;> try simp -implicitDefEqProofs only [go_sem, *]) | ((with_reducible refine And.intro ?_ ?_); (· first | omega | (simp only [List.length_take]; omega)); try simp -implicitDefEqProofs only [go_sem, *]) | first | ((with_reducible refine enter_pu (c1) ?_ ?_ ?_); (· rfl); (· rfl); try simp -implicitDefEqProofs only [go_sem, *]) | ((with_reducible refine enter_pu (c2) ?_ ?_ ?_); (· rfl); (· rfl); try simp -implicitDefEqProofs only [go_sem, *])))
    all_goals exact fin_pu rfl rfl
theorem empty_eq {p : Pg} (h : p.rg) (hl : 0 ≤ p.lsn ∧ p.lsn ≤ 150) : (p.ok && allZero p.vals) = emptyB p := by
  unfold Pg.ok allZero emptyB isIn Pg.good
  have h1 := h.own
  have h2 := h.len
  rw [Bool.eq_iff_iff]
  simp only [Bool.and_eq_true, Bool.or_eq_true, Bool.not_eq_true', decide_eq_true_eq, allFrom_iff, ← Bool.not_eq_true, anyFrom_iff, bne_iff_ne, beq_iff_eq, isIn]
  constructor
  · rintro ⟨-, h3⟩ k hk hk2
    exact Classical.byContradiction fun hc => h3 ⟨k, hk, hk2, hc⟩
  · intro h3
    refine ⟨⟨⟨⟨hl, h1⟩, h2⟩, fun k hk hk2 => ?_⟩, ?_⟩
    · have h4 := h3 k hk hk2
      exact ⟨by omega, .inr h4⟩
    · rintro ⟨k, hk, hk2, hn⟩
      exact hn (h3 k hk hk2)
end
section
theorem ty_pe : tiOf Tryz.prog 107 = some ⟨false, [.pointer none], 8, .other⟩ := by kernel_rfl
theorem ro_cells {xs : List D} : (AV.ro xs).cells = [AV.ro xs] := rfl
attribute [local go_sem] slt_r slt_I slt_p ty_pe ro_cells
end
section
attribute [local go_sem] slt_r slt_I slt_p ty_pe ro_cells cells yieldR_idx'
section
variable {P : Program}
def stepG (P : Program) (g : Option Bool) (op : Op) (d : Tmp) (tm : List AV) (S : Store) (mv : List Nat) (K : St → Prop) : Prop := match g with
  | none => False
  | some true => afterR P (opR (tiOf P) tm S op) (some d) ⟨tm, S, mv⟩ K
  | some false => K ⟨tm.set d (.tup []), S, mv⟩
theorem stepE_g {ops : Array Oper} {d : Tmp} {op : Op} {ty : TypeId} {ps : String} {af : Array Edge} {j : Nat} {wn : Bool} {tm : List AV} {S : Store} {mv : List Nat} {K : St → Prop} :
    stepE P ops (some ⟨some d, op, ty, ps, af, some (j, wn)⟩) ⟨tm, S, mv⟩ K = stepG P (gdJ ops[j]? tm wn) op d tm S mv K := by
  simp only [stepE, stepG, stepP]
  rfl
theorem stepG_t {op : Op} {d : Tmp} {tm : List AV} {S : Store} {mv : List Nat} {K : St → Prop} : stepG P (some true) op d tm S mv K = afterR P (opR (tiOf P) tm S op) (some d) ⟨tm, S, mv⟩ K := rfl
theorem stepG_f {op : Op} {d : Tmp} {tm : List AV} {S : Store} {mv : List Nat} {K : St → Prop} : stepG P (some false) op d tm S mv K = K ⟨tm.set d (.tup []), S, mv⟩ := rfl
variable {ops : Array Oper} {Inv : Store → Prop}
end
attribute [local go_sem] stepE_g stepG_t stepG_f
end
section
theorem yield_loadX {α : Type} [Inhabited α] {zs : List Value} {n : Nat} {sh : Sh} {z0 : Nat} {f : α → AV} {l : List α} {z k sub : Nat} {v : AV} : yieldR (loadM ⟨true, zs, n, sh⟩ z0 f l z k sub) v = ((z0 = z ∧ k < l.length ∧ sub + zs.length ≤ z) ∧ .agg (((f (at' l (k : Int))).cells.drop sub).take zs.length) = v) := by
  unfold loadM
  rw [loadO_agg]
  unfold yieldR
  simp only [List.length_map]
  refine propext ⟨fun ⟨h, k⟩ => ⟨h, by rw [getM h.2.1] at k; exact k⟩, fun ⟨h, k⟩ => ⟨h, by rw [getM h.2.1]; exact k⟩⟩
theorem yield_loadY {α : Type} [Inhabited α] {zs : List Value} {n : Nat} {sh : Sh} {z0 : Nat} {f : α → AV} {l : List α} {z k sub : Nat} {v : AV} : yieldR (loadM ⟨false, zs, n, sh⟩ z0 f l z k sub) v = ((z0 = z ∧ k < l.length ∧ sub < z) ∧ (f (at' l (k : Int))).cells.getD sub .any = v) := by
  unfold loadM
  rw [loadO_one]
  unfold yieldR
  simp only [List.length_map]
  refine propext ⟨fun ⟨h, k⟩ => ⟨h, by rw [getM h.2.1] at k; exact k⟩, fun ⟨h, k⟩ => ⟨h, by rw [getM h.2.1]; exact k⟩⟩
attribute [local go_sem] slt_r slt_I slt_p yield_loadX yield_loadY sD_len List.append_nil
end
section
attribute [local go_sem] slt_r slt_I slt_p
end
section
attribute [local go_sem] slt_r slt_I slt_p ty_pe ro_cells cells sD_len yieldR_idx'
theorem putH_fn (e : Eng) (k : Nat) (slot val : Int) (hk : k < 5) (hm : e.mem.length = 5) : Fn1 Tryz.prog 111 [.ro (cells e), .ro [iD (k : Int)], .ro [iD slot], .ro [iD val]] (Bo (((at' e.mem (k : Int)).owner != 0) && isIn slot 0 2 && isIn val 0 9)) := by
  have hke : (k : Int) < (e.mem.length : Int) := by omega
  have hkm : k < e.mem.length := by omega
  have c1 := in_fn slot 0 2
  have c2 := in_fn val 0 9
  refine fn1_of Tryz.func111 rfl rfl ?_
  simp -implicitDefEqProofs only [go_sem, Tryz.f111]
  (repeat' (first | ((with_reducible first | refine gon ?_ ?_ | refine gos ?_ ?_ | refine cdn ?_ ?_ | refine cds ?_ ?_ | refine gpn ?_ ?_ | refine gps ?_ ?_) <;> intro h <;> (try simp only [dt, df, gi, gt] at h) <;> try simp -implicitDefEqProofs only [go_sem, *]) | ((with_reducible refine And.intro ?_ ?_); (· first | omega | (simp only [List.length_take]; omega)); try simp -implicitDefEqProofs only [go_sem, *]) | first | ((with_reducible refine cp_draw (id := 1) 18 mixed ?_ ?_ ?_); (· decide +kernel); (· first | (simp only [List.all_cons, List.all_nil, List.length_cons, List.length_nil, Nat.reduceAdd, Nat.reduceLT, decide_true, Bool.and_true, Bool.and_self]; done) | rfl); try simp -implicitDefEqProofs only [go_sem, *]) | ((with_reducible refine pre_enter _ (det_pu (c1) ?_ ?_) ?_ ?_); (· rfl); (· rfl); (· rfl); try simp -implicitDefEqProofs only [go_sem, *]) | ((with_reducible refine pre_enter _ (det_pu (c2) ?_ ?_) ?_ ?_); (· rfl); (· rfl); (· rfl); try simp -implicitDefEqProofs only [go_sem, *]) | fail))
  all_goals exact fin_pu (by simp [*]) rfl
theorem putD_c (e e' : Eng) (tx slot val : Int) (k s : Nat) (hk : k < 5) (hs : slot = (s : Int)) (hs3 : s < 3) (hd : Sz e.disk) (hm : Sz e.mem) (hd' : e'.disk.length = 5) (hm' : e'.mem.length = 5)
    (hA : AFn1 Tryz.prog 113 [.ref 13 5 0 0, rA (e.putR tx k slot val)] (sD e) (.tup []) (sD e') M13) :
    AFn1 Tryz.prog 112 [.ref 13 5 0 0, .ro [iD tx], .ro [iD (k : Int)], .ro [iD slot], .ro [iD val]] (sD e) (.tup []) (sD e') M13 := by
  subst hs
  have hd5 := hd.len
  have hm5 := hm.len
  have hsz := hm.sz k hk
  have hatd : at' (dps 7 e.mem) (k : Int) = ⟨7 + k, at' e.mem (k : Int)⟩ := dps_at (by omega)
  have hl2 : (dps 7 e.mem).length = 5 := by rw [dps_len, hm5]
  have h5 : (k : Int) < 5 := by omega
  have g13 : getO (sD e) 13 = some ⟨5, [dW e]⟩ := rfl
  have g6 : getO (sD e) 6 = some ⟨3, (dps 7 e.mem).map dA⟩ := rfl
  have gk : getO (sD e) (7 + k) = some ⟨1, (at' e.mem (k : Int)).vals.map I⟩ := by have := sD_mem (e := e) hk []; rwa [List.append_nil] at this
  have h7 : 7 + k < 14 := by omega
  have hal : e.putR tx k (s : Int) val = ⟨1, tx, k, s, at' (at' e.mem (k : Int)).vals (s : Int), val, 0, 0⟩ := rfl
  rw [hal] at hA
  refine afn1_of Tryz.func112 rfl rfl ?_
  simp -implicitDefEqProofs only [go_sem, Tryz.f112, sD_len]
  (repeat' (first | ((with_reducible first | refine gon ?_ ?_ | refine gos ?_ ?_ | refine cdn ?_ ?_ | refine cds ?_ ?_ | refine gpn ?_ ?_ | refine gps ?_ ?_) <;> intro h <;> (try simp only [dt, df, gi, gt] at h) <;> try simp -implicitDefEqProofs only [go_sem, *]) | ((with_reducible refine And.intro ?_ ?_); (· first | omega | (simp only [List.length_take]; omega)); try simp -implicitDefEqProofs only [go_sem, *]) | first | ((with_reducible refine cp_draw2 (id := 0) 17 1 mixed ?_ ?_ ?_ ?_); (· decide +kernel); (· first | (simp only [List.all_cons, List.all_nil, List.length_cons, List.length_nil, Nat.reduceAdd, Nat.reduceLT, decide_true, Bool.and_true, Bool.and_self]; done) | rfl); (· rfl); try simp -implicitDefEqProofs only [go_sem, List.append_nil, *]) | ((with_reducible refine exp_one 17 ?_ ?_); (· decide +kernel); try simp -implicitDefEqProofs only [go_sem, *]) | fail))
  refine enter_sD (e' := e') (M := M13) (B := []) hA (by simp) hd5 hm5 hd' hm' rfl rfl rfl rfl (by decide) rfl ?_
  rw [List.append_nil]
  simp -implicitDefEqProofs only [go_sem, scT]
  (repeat' (first | ((with_reducible first | refine gon ?_ ?_ | refine gos ?_ ?_ | refine cdn ?_ ?_ | refine cds ?_ ?_ | refine gpn ?_ ?_ | refine gps ?_ ?_) <;> intro h <;> (try simp only [dt, df, gi, gt] at h) <;> try simp -implicitDefEqProofs only [go_sem, *]) | ((with_reducible refine And.intro ?_ ?_); (· first | omega | (simp only [List.length_take]; omega)); try simp -implicitDefEqProofs only [go_sem, *]) | first | ((with_reducible refine exp_end ?_ ?_); (· decide +kernel); try simp -implicitDefEqProofs only [go_sem, *]) | fail))
  exact fin_same ⟨rfl, rfl, rfl⟩
theorem ownH_fn (e : Eng) (k : Nat) (table : Int) (hk : k < 5) (hi : Inv e) : Fn1 Tryz.prog 115 [.ro (cells e), .ro [iD (k : Int)], .ro [iD table]] (Bo (isIn table 0 3 && (((at' e.mem (k : Int)).owner == 0) != (table == 0)) && emptyB (at' e.mem (k : Int)))) := by
  have hlen := hi.len
  have hm5 := hi.mem.len
  have hrg := hi.mem.rg k hk
  have hml := hi.ml k hk
  have hke : (k : Int) < (e.mem.length : Int) := by omega
  have hkm : k < e.mem.length := by omega
  have c1 := in_fn table 0 3
  have c2 := PageEmptyI_fn (at' e.mem (k : Int)) (by have := hrg.len; omega)
  rw [empty_eq hrg (by omega)] at c2
  clear hrg hml hi
  refine fn1_of Tryz.func115 rfl rfl ?_
  simp -implicitDefEqProofs only [go_sem, Tryz.f115]
  refine cp_drawG (id := 1) 9 (fun S => getO S 9 = none) mixed rfl ?_
  ((refine expG_get 0 (.ro (cells e)) rfl ?_ ?_ (by repeat (first | rfl | refine And.intro rfl ?_)) ?_ ?_); (· decide +kernel); (· decide +kernel); (· (intro S hS0; simp -implicitDefEqProofs only [go_sem, hS0, *])); try simp -implicitDefEqProofs only [go_sem, List.set_cons_succ, List.set_cons_zero])
  ((refine expG_get 1 (.ro (cells e)) rfl ?_ ?_ (by repeat (first | rfl | refine And.intro rfl ?_)) ?_ ?_); (· decide +kernel); (· decide +kernel); (· (intro S hS0; simp -implicitDefEqProofs only [go_sem, hS0, *])); try simp -implicitDefEqProofs only [go_sem, List.set_cons_succ, List.set_cons_zero])
  ((refine expG_get 2 (.ro ((cells e).drop 1)) rfl ?_ ?_ (by repeat (first | rfl | refine And.intro rfl ?_)) ?_ ?_); (· decide +kernel); (· decide +kernel); (· (intro S hS0; simp -implicitDefEqProofs only [go_sem, hS0, *])); try simp -implicitDefEqProofs only [go_sem, List.set_cons_succ, List.set_cons_zero])
  ((refine expG_get 3 (pgs e.mem) rfl ?_ ?_ (by repeat (first | rfl | refine And.intro rfl ?_)) ?_ ?_); (· decide +kernel); (· decide +kernel); (· (intro S hS0; simp -implicitDefEqProofs only [go_sem, hS0, *])); try simp -implicitDefEqProofs only [go_sem, List.set_cons_succ, List.set_cons_zero])
  ((refine expG_get 4 (I (k : Int)) rfl ?_ ?_ (by repeat (first | rfl | refine And.intro rfl ?_)) ?_ ?_); (· decide +kernel); (· decide +kernel); (· (intro S hS0; simp -implicitDefEqProofs only [go_sem, hS0, *])); try simp -implicitDefEqProofs only [go_sem, List.set_cons_succ, List.set_cons_zero])
  ((refine expG_get 5 (.ro [iD (at' e.mem (k : Int)).lsn, iD (at' e.mem (k : Int)).owner, .sl 1 ((at' e.mem (k : Int)).vals.map iD)]) rfl ?_ ?_ (by repeat (first | rfl | refine And.intro rfl ?_)) ?_ ?_); (· decide +kernel); (· decide +kernel); (· (intro S hS0; simp -implicitDefEqProofs only [go_sem, hS0, *])); try simp -implicitDefEqProofs only [go_sem, List.set_cons_succ, List.set_cons_zero])
  ((refine expG_get 6 (pA (at' e.mem (k : Int))) rfl ?_ ?_ (by repeat (first | rfl | refine And.intro rfl ?_)) ?_ ?_); (· decide +kernel); (· decide +kernel); (· (intro S hS0; simp -implicitDefEqProofs only [go_sem, hS0, *])); try simp -implicitDefEqProofs only [go_sem, List.set_cons_succ, List.set_cons_zero])
  (repeat' (first | ((with_reducible first | refine gon ?_ ?_ | refine gos ?_ ?_ | refine cdn ?_ ?_ | refine cds ?_ ?_ | refine gpn ?_ ?_ | refine gps ?_ ?_) <;> intro h <;> (try simp only [dt, df, gi, gt] at h) <;> try simp -implicitDefEqProofs only [go_sem, *]) | ((with_reducible refine And.intro ?_ ?_); (· first | omega | (simp only [List.length_take]; omega)); try simp -implicitDefEqProofs only [go_sem, *]) | first | ((with_reducible refine expG_one 7 ?_ ?_); (· decide +kernel); try simp -implicitDefEqProofs only [go_sem, *]) | ((with_reducible refine expG_one 8 ?_ ?_); (· decide +kernel); try simp -implicitDefEqProofs only [go_sem, *]) | ((with_reducible refine expG_end ?_ ?_); (· decide +kernel); try simp -implicitDefEqProofs only [go_sem, *]) | (refine And.intro (rfl : getO [] _ = none) ?_) | fail))
  rcases h1 : isIn table 0 3 with _ | _
  · rw [h1] at c1
    simp -implicitDefEqProofs only [go_sem, true_and]
    (repeat' (first | ((with_reducible first | refine gon ?_ ?_ | refine gos ?_ ?_ | refine cdn ?_ ?_ | refine cds ?_ ?_ | refine gpn ?_ ?_ | refine gps ?_ ?_) <;> intro h <;> (try simp only [dt, df, gi, gt] at h) <;> try simp -implicitDefEqProofs only [go_sem, *]) | ((with_reducible refine And.intro ?_ ?_); (· first | omega | (simp only [List.length_take]; omega)); try simp -implicitDefEqProofs only [go_sem, *]) | first | ((with_reducible refine enter_pu (c1) ?_ ?_ ?_); (· rfl); (· rfl); try simp -implicitDefEqProofs only [go_sem, *]) | ((with_reducible refine enter_pu (c2) ?_ ?_ ?_); (· rfl); (· rfl); try simp -implicitDefEqProofs only [go_sem, *]) | fail))
    all_goals exact fin_pu (by simp [*]) rfl
  · rw [h1] at c1
    simp -implicitDefEqProofs only [go_sem, true_and]
    (repeat' (first | ((with_reducible first | refine gon ?_ ?_ | refine gos ?_ ?_ | refine cdn ?_ ?_ | refine cds ?_ ?_ | refine gpn ?_ ?_ | refine gps ?_ ?_) <;> intro h <;> (try simp only [dt, df, gi, gt] at h) <;> try simp -implicitDefEqProofs only [go_sem, *]) | ((with_reducible refine And.intro ?_ ?_); (· first | omega | (simp only [List.length_take]; omega)); try simp -implicitDefEqProofs only [go_sem, *]) | first | ((with_reducible refine enter_pu (c1) ?_ ?_ ?_); (· rfl); (· rfl); try simp -implicitDefEqProofs only [go_sem, *]) | ((with_reducible refine enter_pu (c2) ?_ ?_ ?_); (· rfl); (· rfl); try simp -implicitDefEqProofs only [go_sem, *]) | fail))
    all_goals exact fin_pu (by simp only [bne, h, Bool.not_false, Bool.not_true, Bool.true_and, Bool.false_and]) rfl
theorem ownC_c (e e' : Eng) (tx table : Int) (k : Nat) (hk : k < 5) (hd : Sz e.disk) (hm : Sz e.mem) (hd' : e'.disk.length = 5) (hm' : e'.mem.length = 5)
    (hA : AFn1 Tryz.prog 113 [.ref 13 5 0 0, rA (e.ownR tx k table)] (sD e) (.tup []) (sD e') M13) :
    AFn1 Tryz.prog 116 [.ref 13 5 0 0, .ro [iD tx], .ro [iD (k : Int)], .ro [iD table]] (sD e) (.tup []) (sD e') M13 := by
  have hd5 := hd.len
  have hm5 := hm.len
  have hatd : at' (dps 7 e.mem) (k : Int) = ⟨7 + k, at' e.mem (k : Int)⟩ := dps_at (by omega)
  have hl2 : (dps 7 e.mem).length = 5 := by rw [dps_len, hm5]
  have h5 : (k : Int) < 5 := by omega
  have g13 : getO (sD e) 13 = some ⟨5, [dW e]⟩ := rfl
  have g6 : getO (sD e) 6 = some ⟨3, (dps 7 e.mem).map dA⟩ := rfl
  have hal : e.ownR tx k table = ⟨2, tx, k, -1, (at' e.mem (k : Int)).owner, table, 0, 0⟩ := rfl
  rw [hal] at hA
  refine afn1_of Tryz.func116 rfl rfl ?_
  simp -implicitDefEqProofs only [go_sem, Tryz.f116, sD_len]
  (repeat' (first | ((with_reducible first | refine gon ?_ ?_ | refine gos ?_ ?_ | refine cdn ?_ ?_ | refine cds ?_ ?_ | refine gpn ?_ ?_ | refine gps ?_ ?_) <;> intro h <;> (try simp only [dt, df, gi, gt] at h) <;> try simp -implicitDefEqProofs only [go_sem, *]) | ((with_reducible refine And.intro ?_ ?_); (· first | omega | (simp only [List.length_take]; omega)); try simp -implicitDefEqProofs only [go_sem, *]) | first | ((with_reducible refine cp_draw2 (id := 0) 13 1 mixed ?_ ?_ ?_ ?_); (· decide +kernel); (· first | (simp only [List.all_cons, List.all_nil, List.length_cons, List.length_nil, Nat.reduceAdd, Nat.reduceLT, decide_true, Bool.and_true, Bool.and_self]; done) | rfl); (· rfl); try simp -implicitDefEqProofs only [go_sem, List.append_nil, *]) | ((with_reducible refine exp_one 13 ?_ ?_); (· decide +kernel); try simp -implicitDefEqProofs only [go_sem, *]) | fail))
  refine enter_sD (e' := e') (M := M13) (B := []) hA (by simp) hd5 hm5 hd' hm' rfl rfl rfl rfl (by decide) rfl ?_
  rw [List.append_nil]
  simp -implicitDefEqProofs only [go_sem, scT]
  (repeat' (first | ((with_reducible first | refine gon ?_ ?_ | refine gos ?_ ?_ | refine cdn ?_ ?_ | refine cds ?_ ?_ | refine gpn ?_ ?_ | refine gps ?_ ?_) <;> intro h <;> (try simp only [dt, df, gi, gt] at h) <;> try simp -implicitDefEqProofs only [go_sem, *]) | ((with_reducible refine And.intro ?_ ?_); (· first | omega | (simp only [List.length_take]; omega)); try simp -implicitDefEqProofs only [go_sem, *]) | first | ((with_reducible refine exp_end ?_ ?_); (· decide +kernel); try simp -implicitDefEqProofs only [go_sem, *]) | fail))
  exact fin_same ⟨rfl, rfl, rfl⟩
end
end Go.Proofs.YtagjgjhkdihodaaGreat.Am
end
section
set_option linter.unusedVariables false
set_option linter.unusedSimpArgs false
set_option maxRecDepth 100000
set_option maxHeartbeats 8000000
namespace Go.Proofs.YtagjgjhkdihodaaGreat.Am
open Go Go.RowKit Go.Proofs
attribute [local congr] opsP_congr codeP_congr AWP_congr afterR_congr preP_congr afterPre_congr gPre_congr gOps_congr condP_congr stepE_congr
attribute [local go_sem] ty_int ty_bool ty_str ty_u8 ty_ints ty_bytes ty_page ty_pages ty_lpage ty_lpages ty_rec ty_recs ty_lrec ty_lrecs ty_eng ty_leng
attribute [local go_sem] true_and and_true beq_true' beq_false' toNat_cast Int.natCast_nonneg Bool.not_not Bool.not_true Bool.not_false decide_true decide_false Bool.or_false Bool.false_or Bool.or_true Bool.true_or Bool.and_false Bool.false_and Nat.zero_add Int.toNat_of_nonneg wrap_succ wrap_m1 wrap_nat succ_m1 cast0 succ_pos' succ_ne' succ_bne' ge_iff_le gt_iff_lt if_true if_false
attribute [local go_sem] slt_r slt_I slt_p
theorem doB_put {e : Eng} (hi : Inv e) {tx slot val : Int} {k : Nat} (hk : k < 5) (h : e.putB tx k slot val = true) (hf : e.fits (e.putR tx k slot val) = true) : doB (at' e.mem (k : Int)) (e.rc (e.putR tx k slot val)) ((e.log.length + 1 : Nat) : Int) = true := by
  have hc := can_put hi h
  have hrg := hi.mem.rg k hk
  have hml := hi.ml k hk
  have hal := alog_len e (e.putR tx k slot val)
  have hn : (e.log.length + 1 : Nat) ≤ 150 := by
    have : (e.alog (e.putR tx k slot val)).length + needTo (e.alog (e.putR tx k slot val)) 3 ≤ 150 := by simpa [Eng.fits] using hf
    omega
  unfold Eng.putB at h
  simp only [Bool.and_eq_true, decide_eq_true_eq] at h
  obtain ⟨⟨⟨hm, h2⟩, h3⟩, h4⟩ := h
  unfold isIn at h2 h3
  simp only [Bool.and_eq_true, decide_eq_true_eq] at h2 h3
  have hp : (at' e.mem (k : Int)).ok = true := (good_iff hrg.len).2 ⟨⟨hml.1, by omega⟩, hrg.own, fun j hj => ⟨hrg.val j hj, .inl h4⟩⟩
  have hq : (doP (at' e.mem (k : Int)) (e.rc (e.putR tx k slot val)) ((e.log.length + 1 : Nat) : Int)).ok = true := by
    have hs : (e.rc (e.putR tx k slot val)).slot = slot := rfl
    have hnw : (e.rc (e.putR tx k slot val)).new = val := rfl
    have hl : (doP (at' e.mem (k : Int)) (e.rc (e.putR tx k slot val)) ((e.log.length + 1 : Nat) : Int)).vals.length = 3 := doP_sz hrg.len
    rw [good_iff hl]
    unfold doP
    rw [hs, if_pos h2.1, hnw]
    refine ⟨⟨by simp only; omega, by simp only; omega⟩, hrg.own, fun j hj => ⟨?_, .inl h4⟩⟩
    simp only
    rw [at_setI _ _ _ _ (by rw [hrg.len]; omega)]
    split
    · exact h3
    · exact hrg.val j hj
  unfold doB
  rw [hp, hc.ok, hq, decide_eq_true (show (at' e.mem (k : Int)).lsn < ((e.log.length + 1 : Nat) : Int) by omega), decide_eq_true (show ((e.log.length + 1 : Nat) : Int) ≤ 150 by omega)]
  rfl
theorem doB_own {e : Eng} (hi : Inv e) {tx table : Int} {k : Nat} (hk : k < 5) (h : e.ownB tx k table = true) (hf : e.fits (e.ownR tx k table) = true) : doB (at' e.mem (k : Int)) (e.rc (e.ownR tx k table)) ((e.log.length + 1 : Nat) : Int) = true := by
  have hc := can_own hi h
  have hrg := hi.mem.rg k hk
  have hml := hi.ml k hk
  have hal := alog_len e (e.ownR tx k table)
  have hn : (e.log.length + 1 : Nat) ≤ 150 := by
    have : (e.alog (e.ownR tx k table)).length + needTo (e.alog (e.ownR tx k table)) 3 ≤ 150 := by simpa [Eng.fits] using hf
    omega
  unfold Eng.ownB at h
  simp only [Bool.and_eq_true] at h
  obtain ⟨⟨⟨hm, h2⟩, h3⟩, h4⟩ := h
  unfold isIn at h2
  simp only [Bool.and_eq_true, decide_eq_true_eq] at h2
  unfold emptyB at h4
  rw [allFrom_iff] at h4
  have hz : ∀ j : Nat, j < 3 → at' (at' e.mem (k : Int)).vals (j : Int) = 0 := fun j hj => by
    have := h4 j (Nat.zero_le _) (by rw [hrg.len]; exact hj)
    simpa using this
  have hp : (at' e.mem (k : Int)).ok = true := (good_iff hrg.len).2 ⟨⟨hml.1, by omega⟩, hrg.own, fun j hj => ⟨hrg.val j hj, .inr (hz j hj)⟩⟩
  have hq : (doP (at' e.mem (k : Int)) (e.rc (e.ownR tx k table)) ((e.log.length + 1 : Nat) : Int)).ok = true := by
    have hs : (e.rc (e.ownR tx k table)).slot = -1 := rfl
    have hnw : (e.rc (e.ownR tx k table)).new = table := rfl
    have hl : (doP (at' e.mem (k : Int)) (e.rc (e.ownR tx k table)) ((e.log.length + 1 : Nat) : Int)).vals.length = 3 := doP_sz hrg.len
    rw [good_iff hl]
    unfold doP
    rw [hs, if_neg (by omega), hnw]
    refine ⟨⟨by simp only; omega, by simp only; omega⟩, h2, fun j hj => ?_⟩
    simp only
    by_cases h0 : table = 0
    · rw [if_pos h0]
      have : j = 0 ∨ j = 1 ∨ j = 2 := by omega
      rcases this with rfl | rfl | rfl <;> exact ⟨⟨by decide, by decide⟩, .inr rfl⟩
    · rw [if_neg h0]
      exact ⟨hrg.val j hj, .inl h0⟩
  unfold doB
  rw [hp, hc.ok, hq, decide_eq_true (show (at' e.mem (k : Int)).lsn < ((e.log.length + 1 : Nat) : Int) by omega), decide_eq_true (show ((e.log.length + 1 : Nat) : Int) ≤ 150 by omega)]
  rfl
end Go.Proofs.YtagjgjhkdihodaaGreat.Am
end
section
set_option linter.unusedVariables false
set_option linter.unusedSimpArgs false
set_option maxRecDepth 100000
set_option maxHeartbeats 8000000
namespace Go.Proofs.YtagjgjhkdihodaaGreat.Am
open Go Go.RowKit Go.Proofs
attribute [local go_sem_proc] Nat.reduceAdd Nat.reduceSub Nat.reduceMul Nat.reduceLT Nat.reduceLeDiff Nat.reduceEqDiff Int.reduceBEq Int.reduceBNe Int.reduceNeg Int.reduceSub Int.reduceLE Int.reduceLT
attribute [local go_sem_proc ↓] reduceIte
attribute [local congr] opsP_congr codeP_congr AWP_congr afterR_congr preP_congr afterPre_congr gPre_congr gOps_congr condP_congr stepE_congr
attribute [local go_sem] ty_int ty_bool ty_str ty_u8 ty_ints ty_bytes ty_page ty_pages ty_lpage ty_lpages ty_rec ty_recs ty_lrec ty_lrecs ty_eng ty_leng
attribute [local go_sem] true_and and_true beq_true' beq_false' toNat_cast Int.natCast_nonneg Bool.not_not Bool.not_true Bool.not_false decide_true decide_false Bool.or_false Bool.false_or Bool.or_true Bool.true_or Bool.and_false Bool.false_and Nat.zero_add Int.toNat_of_nonneg wrap_succ wrap_m1 wrap_nat succ_m1 cast0 succ_pos' succ_ne' succ_bne' ge_iff_le gt_iff_lt if_true if_false
section
attribute [local go_sem] slt_r slt_I slt_p ty_rd ty_ev ty_evs
def putD (e : Eng) (tx page slot val : Int) : Eng × Bool := if okE e = true then e.put tx page slot val else (zeroE, false)
theorem change_own (e : Eng) (tx page : Int) (table : Int) (hok : okE e = true) (hs : e.small) :
    Fn Tryz.prog 107 [eA e, I tx, I page, .clo 115 [.ro [iD page], .ro [iD table]], .clo 116 [.ro [iD tx], .ro [iD page], .ro [iD table]]]
      (fun r S => r = dR (e.own tx page table) ∧ S = dS 0 (e.own tx page table).1) := by
  have hi := inv_of_ok hok
  have hlen := hi.len
  rcases hmay : mayB e tx page with _ | _
  · have e1 : e.own tx page table = (e, false) := by
      unfold Eng.own Eng.ownB
      rw [hmay]
      rfl
    rw [e1]
    exact change_may e tx page _ _ _ _ hok hs hmay
  obtain ⟨-, ht, hp⟩ := mayB_iff hmay
  obtain ⟨k, hk, rfl⟩ := page_nat hp
  have cH := ownH_fn e k table hk hi
  have hlb : e.ownB tx k table = (isIn table 0 3 && (((at' e.mem (k : Int)).owner == 0) != (table == 0)) && emptyB (at' e.mem (k : Int))) := by
    unfold Eng.ownB
    rw [hmay, Bool.true_and]
    have hz : ∀ a : Int, (a == 0) = decide (a = 0) := fun _ => rfl
    simp only [hz]
  rcases hh : (isIn table 0 3 && (((at' e.mem (k : Int)).owner == 0) != (table == 0)) && emptyB (at' e.mem (k : Int))) with _ | _
  · have e1 : e.own tx k table = (e, false) := by
      unfold Eng.own
      rw [hlb, hh]
      rfl
    rw [e1]
    rw [hh] at cH
    exact change_hold e tx k _ _ _ _ hok hs hmay rfl cH
  rw [hh] at cH hlb
  have hc := can_own hi hlb
  have hw := can_wf hi hc
  have hpg : (e.ownR tx k table).page = (k : Int) := rfl
  by_cases hf : e.fits (e.ownR tx k table) = true
  · have hdo := doB_own hi hk hlb hf
    have e1 : e.own tx k table = (e.added (e.ownR tx k table), true) := by unfold Eng.own Eng.add; rw [if_pos hlb, if_pos hf]
    have e2 : e.added (e.ownR tx k table) = (⟨e.disk, e.mem.set k (doP (at' e.mem (k : Int)) (e.rc (e.ownR tx k table)) ((e.log.length + 1 : Nat) : Int)), e.alog (e.ownR tx k table), e.safe, e.down⟩ : Eng) := by
      unfold Eng.added Eng.amem
      rw [if_pos (by rfl), alog_len]
      rfl
    rw [e1, e2]
    have cA := applyD e (e.ownR tx k table) k hk hpg hi.disk.sz hi.mem.sz (by omega) hdo
    have cD := ownC_c e (⟨e.disk, e.mem.set k (doP (at' e.mem (k : Int)) (e.rc (e.ownR tx k table)) ((e.log.length + 1 : Nat) : Int)), e.alog (e.ownR tx k table), e.safe, e.down⟩ : Eng) tx table k hk hi.disk.sz hi.mem.sz hi.disk.len (by simp [hi.mem.len]) cA
    exact change_ok e tx k _ _ _ _ (⟨e.disk, e.mem.set k (doP (at' e.mem (k : Int)) (e.rc (e.ownR tx k table)) ((e.log.length + 1 : Nat) : Int)), e.alog (e.ownR tx k table), e.safe, e.down⟩ : Eng) hok hs hmay hi.disk.len (by simp [hi.mem.len]) rfl rfl cH cD hw (by simpa [Eng.fits] using hf)
  · have e1 : e.own tx k table = (e, false) := by unfold Eng.own Eng.add; rw [if_pos hlb, if_neg hf]
    rw [e1]
    rcases hdo : doB (at' e.mem (k : Int)) (e.rc (e.ownR tx k table)) ((e.log.length + 1 : Nat) : Int) with _ | _
    · have cA := afn1_weak (M2 := M13) (applyD_no e (e.ownR tx k table) k hk hpg hi.disk.sz hi.mem.sz (by omega) hdo) (by decide)
      have cD := ownC_c e (⟨e.disk, e.mem, e.alog (e.ownR tx k table), e.safe, e.down⟩ : Eng) tx table k hk hi.disk.sz hi.mem.sz hi.disk.len hi.mem.len cA
      exact change_full e tx k _ _ _ _ (⟨e.disk, e.mem, e.alog (e.ownR tx k table), e.safe, e.down⟩ : Eng) hok hs hmay hi.disk.len hi.mem.len rfl rfl cH cD hw (by simpa [Eng.fits] using hf)
    · have cA := applyD e (e.ownR tx k table) k hk hpg hi.disk.sz hi.mem.sz (by omega) hdo
      have cD := ownC_c e (⟨e.disk, e.mem.set k (doP (at' e.mem (k : Int)) (e.rc (e.ownR tx k table)) ((e.log.length + 1 : Nat) : Int)), e.alog (e.ownR tx k table), e.safe, e.down⟩ : Eng) tx table k hk hi.disk.sz hi.mem.sz hi.disk.len (by simp [hi.mem.len]) cA
      exact change_full e tx k _ _ _ _ (⟨e.disk, e.mem.set k (doP (at' e.mem (k : Int)) (e.rc (e.ownR tx k table)) ((e.log.length + 1 : Nat) : Int)), e.alog (e.ownR tx k table), e.safe, e.down⟩ : Eng) hok hs hmay hi.disk.len (by simp [hi.mem.len]) rfl rfl cH cD hw (by simpa [Eng.fits] using hf)
theorem ChangeOwnI_own (e : Eng) (tx page : Int) (table : Int) (hok : okE e = true) (hs : e.small) : Fn Tryz.prog 52 [eA e, I tx, I page, I table] (fun r S => r = dR (e.own tx page table) ∧ S = dS 0 (e.own tx page table).1) := by
  have c1 := change_own e tx page table hok hs
  obtain ⟨⟨q, b⟩, hq⟩ : ∃ q, e.own tx page table = q := ⟨_, rfl⟩
  rw [hq] at c1 ⊢
  clear hq hok
  obtain ⟨n1, hn1⟩ : ∃ n1, 5 + (1 + q.disk.length) = n1 := ⟨_, rfl⟩
  obtain ⟨n2, hn2⟩ : ∃ n2, 5 + (2 + q.disk.length + q.mem.length) = n2 := ⟨_, rfl⟩
  have box : ∀ {S : Store} {i : Nat} {x : AV} {d : D}, getO S i = some ⟨1, [x]⟩ → x.cells = [x] → x = d.av0 → x.pur0 = true → d.scalar = true → Arg1 S true (.ref i 1 0 0) (.ro [d]) := fun h hx hd hp hs => by
    refine .ref _ _ _ _ ⟨1, [_]⟩ _ rfl h rfl Nat.one_pos Nat.one_pos ?_ (by simp [hs])
    simp only [List.getD_cons_zero, List.map_cons, List.map_nil, hx, ← hd]
    exact .cons _ _ _ _ (.same _ hp) .nil
  refine fn_of Tryz.func52 rfl rfl ?_
  simp -implicitDefEqProofs only [go_sem, Tryz.f52]
  refine enter_seeE 5 n1 n2 rfl hn1 hn2 c1 (.cons _ _ _ _ (see_same rfl) (.cons _ _ _ _ (see_same rfl) (.cons _ _ _ _ (see_same rfl) (.cons _ _ _ _ (see_arg (.clo _ _ _ (.cons _ _ _ _ (box rfl rfl rfl rfl rfl) (.cons _ _ _ _ (box rfl rfl rfl rfl rfl) .nil)))) (.cons _ _ _ _ (see_arg (.clo _ _ _ (.cons _ _ _ _ (box rfl rfl rfl rfl rfl) (.cons _ _ _ _ (box rfl rfl rfl rfl rfl) (.cons _ _ _ _ (box rfl rfl rfl rfl rfl) .nil))))) .nil))))) ?_
  intro B hB
  simp -implicitDefEqProofs only [go_sem, true_and]
  exact fin_dVd 5 n1 n2 q hB (by simp) hn1 hn2
theorem ChangeOwnI_none (e : Eng) (tx page : Int) (table : Int) (hok : okE e = false) (hs : e.small) : Fn Tryz.prog 52 [eA e, I tx, I page, I table] (fun r S => r = .tup [zA, Bo false] ∧ S = []) := by
  have c1 := change_bad e tx page 115 116 [.ro [iD page], .ro [iD table]] [.ro [iD tx], .ro [iD page], .ro [iD table]] hok hs
  have box : ∀ {S : Store} {i : Nat} {x : AV} {d : D}, getO S i = some ⟨1, [x]⟩ → x.cells = [x] → x = d.av0 → x.pur0 = true → d.scalar = true → Arg1 S true (.ref i 1 0 0) (.ro [d]) := fun h hx hd hp hs => by
    refine .ref _ _ _ _ ⟨1, [_]⟩ _ rfl h rfl Nat.one_pos Nat.one_pos ?_ (by simp [hs])
    simp only [List.getD_cons_zero, List.map_cons, List.map_nil, hx, ← hd]
    exact .cons _ _ _ _ (.same _ hp) .nil
  clear hok
  refine fn_of Tryz.func52 rfl rfl ?_
  simp -implicitDefEqProofs only [go_sem, Tryz.f52]
  refine enter_see c1 (.cons _ _ _ _ (see_same rfl) (.cons _ _ _ _ (see_same rfl) (.cons _ _ _ _ (see_same rfl) (.cons _ _ _ _ (see_arg (.clo _ _ _ (.cons _ _ _ _ (box rfl rfl rfl rfl rfl) (.cons _ _ _ _ (box rfl rfl rfl rfl rfl) .nil)))) (.cons _ _ _ _ (see_arg (.clo _ _ _ (.cons _ _ _ _ (box rfl rfl rfl rfl rfl) (.cons _ _ _ _ (box rfl rfl rfl rfl rfl) (.cons _ _ _ _ (box rfl rfl rfl rfl rfl) .nil))))) .nil))))) rfl (fun o ho => by cases ho) ?_
  simp -implicitDefEqProofs only [go_sem, shS, List.map_nil]
  exact fin_z
theorem ChangeOwnI_fn (e : Eng) (tx page : Int) (table : Int) (hs : e.small) : Fn1 Tryz.prog 52 [eA e, I tx, I page, I table] (.tup [eA (ownD e tx page table).1, Bo (ownD e tx page table).2]) := by
  unfold ownD
  rcases hok : okE e with _ | _
  · rw [if_neg (by simp)]
    exact fn1_of_own (ChangeOwnI_none e tx page table hok hs) see_zA
  · rw [if_pos rfl]
    exact fn1_of_own (ChangeOwnI_own e tx page table hok hs) (see_dR _)
theorem change_put (e : Eng) (tx page : Int) (slot val : Int) (hok : okE e = true) (hs : e.small) :
    Fn Tryz.prog 107 [eA e, I tx, I page, .clo 111 [.ro [iD page], .ro [iD slot], .ro [iD val]], .clo 112 [.ro [iD tx], .ro [iD page], .ro [iD slot], .ro [iD val]]]
      (fun r S => r = dR (e.put tx page slot val) ∧ S = dS 0 (e.put tx page slot val).1) := by
  have hi := inv_of_ok hok
  have hlen := hi.len
  rcases hmay : mayB e tx page with _ | _
  · have e1 : e.put tx page slot val = (e, false) := by
      unfold Eng.put Eng.putB
      rw [hmay]
      rfl
    rw [e1]
    exact change_may e tx page _ _ _ _ hok hs hmay
  obtain ⟨-, ht, hp⟩ := mayB_iff hmay
  obtain ⟨k, hk, rfl⟩ := page_nat hp
  have cH := putH_fn e k slot val hk hi.mem.len
  have hlb : e.putB tx k slot val = (((at' e.mem (k : Int)).owner != 0) && isIn slot 0 2 && isIn val 0 9) := by
    unfold Eng.putB
    rw [hmay, Bool.true_and]
    have hz : ∀ a : Int, (a == 0) = decide (a = 0) := fun _ => rfl
    cases isIn slot 0 2 <;> cases isIn val 0 9 <;> simp [bne, hz]
  rcases hh : (((at' e.mem (k : Int)).owner != 0) && isIn slot 0 2 && isIn val 0 9) with _ | _
  · have e1 : e.put tx k slot val = (e, false) := by
      unfold Eng.put
      rw [hlb, hh]
      rfl
    rw [e1]
    rw [hh] at cH
    exact change_hold e tx k _ _ _ _ hok hs hmay rfl cH
  rw [hh] at cH hlb
  have hc := can_put hi hlb
  have hw := can_wf hi hc
  have hpg : (e.putR tx k slot val).page = (k : Int) := rfl
  have hsl : 0 ≤ slot ∧ slot ≤ 2 := by
    unfold Eng.putB isIn at hlb
    simp only [Bool.and_eq_true, decide_eq_true_eq] at hlb
    exact hlb.1.1.2
  by_cases hf : e.fits (e.putR tx k slot val) = true
  · have hdo := doB_put hi hk hlb hf
    have e1 : e.put tx k slot val = (e.added (e.putR tx k slot val), true) := by unfold Eng.put Eng.add; rw [if_pos hlb, if_pos hf]
    have e2 : e.added (e.putR tx k slot val) = (⟨e.disk, e.mem.set k (doP (at' e.mem (k : Int)) (e.rc (e.putR tx k slot val)) ((e.log.length + 1 : Nat) : Int)), e.alog (e.putR tx k slot val), e.safe, e.down⟩ : Eng) := by
      unfold Eng.added Eng.amem
      rw [if_pos (by rfl), alog_len]
      rfl
    rw [e1, e2]
    have cA := applyD e (e.putR tx k slot val) k hk hpg hi.disk.sz hi.mem.sz (by omega) hdo
    have cD := putD_c e (⟨e.disk, e.mem.set k (doP (at' e.mem (k : Int)) (e.rc (e.putR tx k slot val)) ((e.log.length + 1 : Nat) : Int)), e.alog (e.putR tx k slot val), e.safe, e.down⟩ : Eng) tx slot val k slot.toNat hk (by omega) (by omega) hi.disk.sz hi.mem.sz hi.disk.len (by simp [hi.mem.len]) cA
    exact change_ok e tx k _ _ _ _ (⟨e.disk, e.mem.set k (doP (at' e.mem (k : Int)) (e.rc (e.putR tx k slot val)) ((e.log.length + 1 : Nat) : Int)), e.alog (e.putR tx k slot val), e.safe, e.down⟩ : Eng) hok hs hmay hi.disk.len (by simp [hi.mem.len]) rfl rfl cH cD hw (by simpa [Eng.fits] using hf)
  · have e1 : e.put tx k slot val = (e, false) := by unfold Eng.put Eng.add; rw [if_pos hlb, if_neg hf]
    rw [e1]
    rcases hdo : doB (at' e.mem (k : Int)) (e.rc (e.putR tx k slot val)) ((e.log.length + 1 : Nat) : Int) with _ | _
    · have cA := afn1_weak (M2 := M13) (applyD_no e (e.putR tx k slot val) k hk hpg hi.disk.sz hi.mem.sz (by omega) hdo) (by decide)
      have cD := putD_c e (⟨e.disk, e.mem, e.alog (e.putR tx k slot val), e.safe, e.down⟩ : Eng) tx slot val k slot.toNat hk (by omega) (by omega) hi.disk.sz hi.mem.sz hi.disk.len hi.mem.len cA
      exact change_full e tx k _ _ _ _ (⟨e.disk, e.mem, e.alog (e.putR tx k slot val), e.safe, e.down⟩ : Eng) hok hs hmay hi.disk.len hi.mem.len rfl rfl cH cD hw (by simpa [Eng.fits] using hf)
    · have cA := applyD e (e.putR tx k slot val) k hk hpg hi.disk.sz hi.mem.sz (by omega) hdo
      have cD := putD_c e (⟨e.disk, e.mem.set k (doP (at' e.mem (k : Int)) (e.rc (e.putR tx k slot val)) ((e.log.length + 1 : Nat) : Int)), e.alog (e.putR tx k slot val), e.safe, e.down⟩ : Eng) tx slot val k slot.toNat hk (by omega) (by omega) hi.disk.sz hi.mem.sz hi.disk.len (by simp [hi.mem.len]) cA
      exact change_full e tx k _ _ _ _ (⟨e.disk, e.mem.set k (doP (at' e.mem (k : Int)) (e.rc (e.putR tx k slot val)) ((e.log.length + 1 : Nat) : Int)), e.alog (e.putR tx k slot val), e.safe, e.down⟩ : Eng) hok hs hmay hi.disk.len (by simp [hi.mem.len]) rfl rfl cH cD hw (by simpa [Eng.fits] using hf)
theorem ChangePutI_own (e : Eng) (tx page : Int) (slot val : Int) (hok : okE e = true) (hs : e.small) : Fn Tryz.prog 50 [eA e, I tx, I page, I slot, I val] (fun r S => r = dR (e.put tx page slot val) ∧ S = dS 0 (e.put tx page slot val).1) := by
  have c1 := change_put e tx page slot val hok hs
  obtain ⟨⟨q, b⟩, hq⟩ : ∃ q, e.put tx page slot val = q := ⟨_, rfl⟩
  rw [hq] at c1 ⊢
  clear hq hok
  obtain ⟨n1, hn1⟩ : ∃ n1, 6 + (1 + q.disk.length) = n1 := ⟨_, rfl⟩
  obtain ⟨n2, hn2⟩ : ∃ n2, 6 + (2 + q.disk.length + q.mem.length) = n2 := ⟨_, rfl⟩
  have box : ∀ {S : Store} {i : Nat} {x : AV} {d : D}, getO S i = some ⟨1, [x]⟩ → x.cells = [x] → x = d.av0 → x.pur0 = true → d.scalar = true → Arg1 S true (.ref i 1 0 0) (.ro [d]) := fun h hx hd hp hs => by
    refine .ref _ _ _ _ ⟨1, [_]⟩ _ rfl h rfl Nat.one_pos Nat.one_pos ?_ (by simp [hs])
    simp only [List.getD_cons_zero, List.map_cons, List.map_nil, hx, ← hd]
    exact .cons _ _ _ _ (.same _ hp) .nil
  refine fn_of Tryz.func50 rfl rfl ?_
  simp -implicitDefEqProofs only [go_sem, Tryz.f50]
  refine enter_seeE 6 n1 n2 rfl hn1 hn2 c1 (.cons _ _ _ _ (see_same rfl) (.cons _ _ _ _ (see_same rfl) (.cons _ _ _ _ (see_same rfl) (.cons _ _ _ _ (see_arg (.clo _ _ _ (.cons _ _ _ _ (box rfl rfl rfl rfl rfl) (.cons _ _ _ _ (box rfl rfl rfl rfl rfl) (.cons _ _ _ _ (box rfl rfl rfl rfl rfl) .nil))))) (.cons _ _ _ _ (see_arg (.clo _ _ _ (.cons _ _ _ _ (box rfl rfl rfl rfl rfl) (.cons _ _ _ _ (box rfl rfl rfl rfl rfl) (.cons _ _ _ _ (box rfl rfl rfl rfl rfl) (.cons _ _ _ _ (box rfl rfl rfl rfl rfl) .nil)))))) .nil))))) ?_
  intro B hB
  simp -implicitDefEqProofs only [go_sem, true_and]
  exact fin_dVd 6 n1 n2 q hB (by simp) hn1 hn2
theorem ChangePutI_none (e : Eng) (tx page : Int) (slot val : Int) (hok : okE e = false) (hs : e.small) : Fn Tryz.prog 50 [eA e, I tx, I page, I slot, I val] (fun r S => r = .tup [zA, Bo false] ∧ S = []) := by
  have c1 := change_bad e tx page 111 112 [.ro [iD page], .ro [iD slot], .ro [iD val]] [.ro [iD tx], .ro [iD page], .ro [iD slot], .ro [iD val]] hok hs
  have box : ∀ {S : Store} {i : Nat} {x : AV} {d : D}, getO S i = some ⟨1, [x]⟩ → x.cells = [x] → x = d.av0 → x.pur0 = true → d.scalar = true → Arg1 S true (.ref i 1 0 0) (.ro [d]) := fun h hx hd hp hs => by
    refine .ref _ _ _ _ ⟨1, [_]⟩ _ rfl h rfl Nat.one_pos Nat.one_pos ?_ (by simp [hs])
    simp only [List.getD_cons_zero, List.map_cons, List.map_nil, hx, ← hd]
    exact .cons _ _ _ _ (.same _ hp) .nil
  clear hok
  refine fn_of Tryz.func50 rfl rfl ?_
  simp -implicitDefEqProofs only [go_sem, Tryz.f50]
  refine enter_see c1 (.cons _ _ _ _ (see_same rfl) (.cons _ _ _ _ (see_same rfl) (.cons _ _ _ _ (see_same rfl) (.cons _ _ _ _ (see_arg (.clo _ _ _ (.cons _ _ _ _ (box rfl rfl rfl rfl rfl) (.cons _ _ _ _ (box rfl rfl rfl rfl rfl) (.cons _ _ _ _ (box rfl rfl rfl rfl rfl) .nil))))) (.cons _ _ _ _ (see_arg (.clo _ _ _ (.cons _ _ _ _ (box rfl rfl rfl rfl rfl) (.cons _ _ _ _ (box rfl rfl rfl rfl rfl) (.cons _ _ _ _ (box rfl rfl rfl rfl rfl) (.cons _ _ _ _ (box rfl rfl rfl rfl rfl) .nil)))))) .nil))))) rfl (fun o ho => by cases ho) ?_
  simp -implicitDefEqProofs only [go_sem, shS, List.map_nil]
  exact fin_z
theorem ChangePutI_fn (e : Eng) (tx page : Int) (slot val : Int) (hs : e.small) : Fn1 Tryz.prog 50 [eA e, I tx, I page, I slot, I val] (.tup [eA (putD e tx page slot val).1, Bo (putD e tx page slot val).2]) := by
  unfold putD
  rcases hok : okE e with _ | _
  · rw [if_neg (by simp)]
    exact fn1_of_own (ChangePutI_none e tx page slot val hok hs) see_zA
  · rw [if_pos rfl]
    exact fn1_of_own (ChangePutI_own e tx page slot val hok hs) (see_dR _)
theorem ChangePutS_fn (e : Eng) (tx page slot val : Int) (h : e.small) : Fn1 Tryz.prog 49 [eA e, I tx, I page, I slot, I val] (.tup [eA (putD e tx page slot val).1, Bo (putD e tx page slot val).2]) := by
  have c1 := okS e h
  refine fn1_of Tryz.func49 rfl rfl ?_
  unfold putD
  rcases hok : okE e with _ | _
  · rw [if_neg (by simp)]
    rw [hok] at c1
    simp -implicitDefEqProofs only [go_sem, Tryz.f49]
    (repeat' (first | ((with_reducible first | refine gon ?_ ?_ | refine gos ?_ ?_ | refine cdn ?_ ?_ | refine cds ?_ ?_ | refine gpn ?_ ?_ | refine gps ?_ ?_) <;> intro h <;> (try simp only [dt, df, gi, gt] at h) <;> try simp -implicitDefEqProofs only [go_sem, *]) | ((with_reducible refine And.intro ?_ ?_); (· first | omega | (simp only [List.length_take]; omega)); try simp -implicitDefEqProofs only [go_sem, *]) | ((with_reducible refine enter_pu (c1) ?_ ?_ ?_); (· rfl); (· rfl); try simp -implicitDefEqProofs only [go_sem, *])))
    exact fin_drawn rd_ez ⟨⟨rfl, rfl⟩, rfl⟩
  rw [if_pos rfl]
  rw [hok] at c1
  have hi := inv_of_ok hok
  have hi2 := put_inv hi tx page slot val
  have c2 := l11Copy_c e hi.disk.sz hi.mem.sz (by have := hi.len; omega)
  have c3 := l12Put_c e tx page slot val hi
  have ha := hi2.disk.len
  have hb := hi2.mem.len
  generalize e.put tx page slot val = q at c3 ha hb ⊢
  obtain ⟨⟨qa, qb, qc, qs, qd⟩, b⟩ := q
  simp only at c3 ha hb ⊢
  clear hok hi hi2
  simp -implicitDefEqProofs only [go_sem, Tryz.f49]
  (repeat' (first | ((with_reducible first | refine gon ?_ ?_ | refine gos ?_ ?_ | refine cdn ?_ ?_ | refine cds ?_ ?_ | refine gpn ?_ ?_ | refine gps ?_ ?_) <;> intro h <;> (try simp only [dt, df, gi, gt] at h) <;> try simp -implicitDefEqProofs only [go_sem, *]) | ((with_reducible refine And.intro ?_ ?_); (· first | omega | (simp only [List.length_take]; omega)); try simp -implicitDefEqProofs only [go_sem, *]) | first | ((with_reducible refine enter_pu (c1) ?_ ?_ ?_); (· rfl); (· rfl); try simp -implicitDefEqProofs only [go_sem, *]) | ((with_reducible refine enter_fn (c2) ?_ ?_); (· rfl); try simp -implicitDefEqProofs only [go_sem, *]) | ((with_reducible refine enter_at1 [2, 3] (M2 := []) (c3) (by decide) ?_ ?_ rfl ?_); (· repeat (first | exact Keeps.nil | (refine Keeps.cons _ _ _ _ _ rfl rfl ?_ ?_; (· first | exact a2_p _ _ | exact a2_1 rfl | exact a2_I _ _)))); (· repeat (first | exact All2.nil | (refine All2.cons _ _ _ _ ?_ ?_; (· first | exact rnT_eX rfl rfl | exact rnT_prim | exact rnT_sl | exact rnT_ref rfl | exact rnT_agg rfl | exact rnT_own rfl | exact rnT_eX5 rfl rfl)))); try simp -implicitDefEqProofs only [go_sem, *])))
  all_goals exact fin_drawn (rd_oX rfl rfl ha hb) ⟨⟨rfl, rfl⟩, rfl⟩
end
section
attribute [local go_sem] slt_r slt_I slt_p
theorem FnExactChangePut_ok (e g : Eng) (b : Bool) (tx : Int) (page : Int) (slot : Int) (val : Int) (hs : e.small) (h0 : ¬ szE e 1048576 < 0) (hg : g.mid)
    (cS : Fn1 Tryz.prog 49 [eA e, I tx, I page, I slot, I val] (.tup [eA g, Bo b])) (cI : Fn1 Tryz.prog 50 [eA e, I tx, I page, I slot, I val] (.tup [eA g, Bo b]))
    (cIo : Fn Tryz.prog 50 [eA e, I tx, I page, I slot, I val] (fun r S => r = dR (g, b) ∧ S = dS 0 g)) : Fn1 Tryz.prog 12 [eA e, I tx, I page, I slot, I val] (Bo true) := by
  have hm : e.mid := mid_of h0
  have cz := szEngine_fn e 1048576 (by omega) hs
  have ct := toEngine_fn e hm
  have cto := toEngine_own e hm
  have ceg := eqEngine_fn g g hg.small
  rw [sameE_refl] at ceg
  have cee := eqEngine_fn e e hs
  rw [sameE_refl] at cee
  refine fn1_of Tryz.func12 rfl rfl ?_
  simp -implicitDefEqProofs only [go_sem, Tryz.f12]
  (repeat' (first | ((with_reducible first | refine gon ?_ ?_ | refine gos ?_ ?_ | refine cdn ?_ ?_ | refine cds ?_ ?_ | refine gpn ?_ ?_ | refine gps ?_ ?_) <;> intro h <;> (try simp only [dt, df, gi, gt] at h) <;> try simp -implicitDefEqProofs only [go_sem, *]) | ((with_reducible refine And.intro ?_ ?_); (· first | omega | (simp only [List.length_take]; omega)); try simp -implicitDefEqProofs only [go_sem, *]) | ((with_reducible refine enter_pu (cz) ?_ ?_ ?_); (· rfl); (· rfl); try simp -implicitDefEqProofs only [go_sem, *])))
  ((with_reducible refine enter_pu (ct) ?_ ?_ ?_); (· rfl); (· rfl); try simp -implicitDefEqProofs only [go_sem, *])
  (repeat' (first | ((with_reducible first | refine gon ?_ ?_ | refine gos ?_ ?_ | refine cdn ?_ ?_ | refine cds ?_ ?_ | refine gpn ?_ ?_ | refine gps ?_ ?_) <;> intro h <;> (try simp only [dt, df, gi, gt] at h) <;> try simp -implicitDefEqProofs only [go_sem, *]) | ((with_reducible refine And.intro ?_ ?_); (· first | omega | (simp only [List.length_take]; omega)); try simp -implicitDefEqProofs only [go_sem, *]) | ((with_reducible refine enter_pu (cS) ?_ ?_ ?_); (· rfl); (· rfl); try simp -implicitDefEqProofs only [go_sem, *])))
  obtain ⟨n1, hn1⟩ : ∃ n1, 2 + (1 + e.disk.length) = n1 := ⟨_, rfl⟩
  obtain ⟨n2, hn2⟩ : ∃ n2, 2 + (2 + e.disk.length + e.mem.length) = n2 := ⟨_, rfl⟩
  refine enter_fnE 2 n1 n2 rfl hn1 hn2 cto rfl ?_
  intro A hA
  obtain ⟨n, hn⟩ : ∃ n, A.length = n := ⟨_, rfl⟩
  have a0 : ∀ T, getO (A ++ T) 0 = some ⟨5, [eA e]⟩ := fun T => by rw [hA]; rfl
  have a1 : ∀ T, getO (A ++ T) 1 = some ⟨5, [eA g]⟩ := fun T => by rw [hA]; rfl
  have ax : ∀ (o : AObj) T, getO (A ++ some o :: T) n = some o := fun o T => by rw [← hn]; exact getO_app
  have ay : ∀ (o x : Option AObj) T, (A ++ o :: T).set n x = A ++ x :: T := fun o x T => by rw [← hn]; exact set_app
  replace hA := Hid.mk' hA
  simp -implicitDefEqProofs only [go_sem, List.append_assoc, hn, ax, ay, a0, a1]
  have hHx : ∀ T, Has (A ++ T) 2 (dS 2 e) := fun T => by
    rw [hA]
    exact Has.mid rfl
  obtain ⟨m1, hm1⟩ : ∃ m1, n + 1 + (1 + g.disk.length) = m1 := ⟨_, rfl⟩
  obtain ⟨m2, hm2⟩ : ∃ m2, n + 1 + (2 + g.disk.length + g.mem.length) = m2 := ⟨_, rfl⟩
  refine enter_seeE (n + 1) m1 m2 (by rw [List.length_append, hn]; rfl) hm1 hm2 cIo (.cons _ _ _ _ (see_dV hn1 hn2 (hHx _)) (.cons _ _ _ _ (see_same rfl) (.cons _ _ _ _ (see_same rfl) (.cons _ _ _ _ (see_same rfl) (.cons _ _ _ _ (see_same rfl) .nil))))) ?_
  intro B hB
  obtain ⟨bl, hbl⟩ : ∃ bl, B.length = bl := ⟨_, rfl⟩
  replace hB := Hid.mk' hB
  have bx : ∀ (c : Option AObj) (o : AObj) T, getO (A ++ c :: (B ++ some o :: T)) (n + (bl + 1)) = some o := fun c o T => getO_app2 hn hbl
  have by' : ∀ (c o x : Option AObj) T, (A ++ c :: (B ++ o :: T)).set (n + (bl + 1)) x = A ++ c :: (B ++ x :: T) := fun c o x T => set_app2 hn hbl
  have bnn : (b == b) = true := by cases b <;> rfl
  simp -implicitDefEqProofs only [go_sem, List.append_assoc, hn, hbl, ax, ay, a0, a1, bx, by']
  have seeG : ∀ c T, Sees (A ++ c :: (B ++ T)) true (dV (n + 1) m1 m2 g) (eA g) := fun c T => by
    have h : B = dS (n + 1) g := hB
    refine see_dV hm1 hm2 ?_
    rw [← h]
    exact has_app2 hn
  refine enter_see1 ceg (.cons _ _ _ _ (seeG _ _) (.cons _ _ _ _ (see_same rfl) .nil)) rfl rfl ?_
  simp -implicitDefEqProofs only [go_sem, ax, ay, a0, a1, bx, by', bnn]
  refine cp_drawG (id := 10) 5 (fun S => getO S n = some ⟨5, [dV 2 n1 n2 e]⟩ ∧ getO S 0 = some ⟨5, [eA e]⟩) mixed rfl ?_
  (refine expG_get 0 (dV 2 n1 n2 e) rfl ?_ ?_ ⟨ax _ _, a0 _⟩ ?_ ?_); (· decide +kernel); (· decide +kernel); (· (rintro S ⟨hS0, hS1⟩; simp -implicitDefEqProofs only [go_sem, hS0, hS1, *])); try simp -implicitDefEqProofs only [go_sem, List.set_cons_succ, List.set_cons_zero]
  (refine expG_get 1 (eA e) rfl ?_ ?_ ⟨ax _ _, a0 _⟩ ?_ ?_); (· decide +kernel); (· decide +kernel); (· (rintro S ⟨hS0, hS1⟩; simp -implicitDefEqProofs only [go_sem, hS0, hS1, *])); try simp -implicitDefEqProofs only [go_sem, List.set_cons_succ, List.set_cons_zero]
  ((with_reducible refine expG_one 2 ?_ ?_); (· decide +kernel); try simp -implicitDefEqProofs only [go_sem, *])
  ((with_reducible refine enter_pu (ct) ?_ ?_ ?_); (· rfl); (· rfl); try simp -implicitDefEqProofs only [go_sem, *])
  ((with_reducible refine expG_one 3 ?_ ?_); (· decide +kernel); try simp -implicitDefEqProofs only [go_sem, *])
  refine enter_see1 cee (.cons _ _ _ _ (see_dV hn1 hn2 (hHx _)) (.cons _ _ _ _ (see_same rfl) .nil)) rfl rfl ?_
  simp -implicitDefEqProofs only [go_sem, ax, a0]
  (repeat' (first | ((with_reducible first | refine gon ?_ ?_ | refine gos ?_ ?_ | refine cdn ?_ ?_ | refine cds ?_ ?_ | refine gpn ?_ ?_ | refine gps ?_ ?_) <;> intro h <;> (try simp only [dt, df, gi, gt] at h) <;> try simp -implicitDefEqProofs only [go_sem, *]) | ((with_reducible refine And.intro ?_ ?_); (· first | omega | (simp only [List.length_take]; omega)); try simp -implicitDefEqProofs only [go_sem, *]) | first | ((with_reducible refine expG_one 4 ?_ ?_); (· decide +kernel); try simp -implicitDefEqProofs only [go_sem, *]) | ((with_reducible refine expG_end ?_ ?_); (· decide +kernel); try simp -implicitDefEqProofs only [go_sem, *])))
  refine enter_mid 2 (A := [some ⟨5, [eA e]⟩, some ⟨5, [eA g]⟩]) (X0 := dS 0 e) (X1 := dS 0 (markE 1 e)) (B := some ⟨5, [dV 2 n1 n2 e]⟩ :: (B ++ [some ⟨5, [dV (n + 1) m1 m2 g]⟩])) (args' := [dE 0 e, I 1]) (markEngine_c e hm) ?_ rfl dS_mark_len (by rw [dS_len]; exact cl_dS (by omega)) ?_ rfl ?_ ?_ ?_
  · rw [sh_dS, hA]
  · rw [← dS_mark_len (k := 1), dS_len]
    exact cl_dS (by omega)
  · rw [List.map_cons, sh_dE, Nat.add_zero, ← dV_eq hn1 hn2, List.map_cons, List.map_nil, sh_prim]
  · simp only [List.all_cons, List.all_nil, Bool.and_true]
    rw [dS_len]
    exact Bool.and_eq_true_iff.2 ⟨cl_dE (by omega), rfl⟩
  obtain ⟨A2, hA2⟩ : ∃ A2, [some ⟨5, [eA e]⟩, some ⟨5, [eA g]⟩] ++ shS 2 (dS 0 (markE 1 e)) = A2 := ⟨_, rfl⟩
  have hn' : A2.length = n := by
    have h1 : A = [some ⟨5, [eA e]⟩, some ⟨5, [eA g]⟩] ++ dS 2 e := hA
    rw [← hA2, ← hn, h1, List.length_append, List.length_append, shS_len, dS_mark_len, dS_len, dS_len]
  have a0' : ∀ T, getO (A2 ++ T) 0 = some ⟨5, [eA e]⟩ := fun T => by rw [← hA2]; rfl
  have a1' : ∀ T, getO (A2 ++ T) 1 = some ⟨5, [eA g]⟩ := fun T => by rw [← hA2]; rfl
  have ax' : ∀ (o : AObj) T, getO (A2 ++ some o :: T) n = some o := fun o T => by rw [← hn']; exact getO_app
  have k1 : ¬ (1 + (cntE e : Int) < 0) := by omega
  have k2 : ¬ (1 + (cntE g : Int) < 0) := by omega
  have k3 : ((1 + (cntE g : Int)) != (1 + (cntE g : Int))) = false := by simp
  have hh := heldEngine_fn g hg
  have bx' : ∀ (c : Option AObj) (o : AObj) T, getO (A2 ++ c :: (B ++ some o :: T)) (n + (bl + 1)) = some o := fun c o T => getO_app2 hn' hbl
  have seeG' : ∀ c T, Sees (A2 ++ c :: (B ++ T)) true (dV (n + 1) m1 m2 g) (eA g) := fun c T => by
    have h : B = dS (n + 1) g := hB
    refine see_dV hm1 hm2 ?_
    rw [← h]
    exact has_app2 hn'
  rw [hA2]
  clear hA2
  simp -implicitDefEqProofs only [go_sem, a0', a1', ax', bx', k1]
  refine enter_see1 ceg (.cons _ _ _ _ (seeG' _ _) (.cons _ _ _ _ (see_same rfl) .nil)) rfl rfl ?_
  simp -implicitDefEqProofs only [go_sem, a0', a1', ax', bx', bnn]
  (repeat' (first | ((with_reducible first | refine gon ?_ ?_ | refine gos ?_ ?_ | refine cdn ?_ ?_ | refine cds ?_ ?_ | refine gpn ?_ ?_ | refine gps ?_ ?_) <;> intro h <;> (try simp only [dt, df, gi, gt] at h) <;> try simp -implicitDefEqProofs only [go_sem, *]) | ((with_reducible refine And.intro ?_ ?_); (· first | omega | (simp only [List.length_take]; omega)); try simp -implicitDefEqProofs only [go_sem, *]) | fail))
  refine enter_mid (n + 1) (A := A2 ++ [some ⟨5, [dV 2 n1 n2 e]⟩]) (X0 := dS 0 g) (X1 := dS 0 (markE 1 g)) (B := [some ⟨5, [dV (n + 1) m1 m2 g]⟩]) (args' := [dE 0 g, I 1]) (markEngine_c g hg) ?_ (by rw [List.length_append, hn']; rfl) dS_mark_len (by rw [dS_len]; exact cl_dS (by omega)) ?_ rfl ?_ ?_ ?_
  · have h : B = dS (n + 1) g := hB
    rw [sh_dS, Nat.add_zero, ← h, List.append_assoc, List.append_assoc]
    rfl
  · rw [← dS_mark_len (k := 1), dS_len]
    exact cl_dS (by omega)
  · rw [List.map_cons, sh_dE, Nat.add_zero, ← dV_eq hm1 hm2, List.map_cons, List.map_nil, sh_prim]
  · simp only [List.all_cons, List.all_nil, Bool.and_true]
    rw [dS_len]
    exact Bool.and_eq_true_iff.2 ⟨cl_dE (by omega), rfl⟩
  obtain ⟨B2, hB2⟩ : ∃ B2, shS (n + 1) (dS 0 (markE 1 g)) = B2 := ⟨_, rfl⟩
  have hbl' : B2.length = bl := by
    have h : B = dS (n + 1) g := hB
    rw [← hB2, ← hbl, h, shS_len, dS_mark_len, dS_len, dS_len]
  have bx2 : ∀ (c : Option AObj) (o : AObj) T, getO (A2 ++ c :: (B2 ++ some o :: T)) (n + (bl + 1)) = some o := fun c o T => getO_app2 hn' hbl'
  have see2 : ∀ c T, Sees (A2 ++ c :: (B2 ++ T)) true (dV (n + 1) m1 m2 g) (eA (markE 1 g)) := fun c T => by
    have h : dS (n + 1) (markE 1 g) = B2 := by rw [← hB2, sh_dS, Nat.add_zero]
    rw [dV_eq hm1 hm2, ← dE_mark (k := 1)]
    refine see_dE ?_
    rw [h]
    exact has_app2 hn'
  rw [hB2]
  clear hB2
  simp -implicitDefEqProofs only [go_sem, List.append_assoc, a0', a1', ax', bx2, k2]
  refine enter_see1 hh (.cons _ _ _ _ (see2 _ _) (.cons _ _ _ _ (see_same rfl) .nil)) rfl rfl ?_
  simp -implicitDefEqProofs only [go_sem, a0', a1', ax', bx2, k2, k3]
  have cx2 : ∀ (c d : Option AObj) (o : AObj) T, getO (A2 ++ c :: (B2 ++ d :: some o :: T)) (n + (bl + 1 + 1)) = some o := fun c d o T => getO_app3 hn' hbl'
  have cy2 : ∀ (c d o x : Option AObj) T, (A2 ++ c :: (B2 ++ d :: o :: T)).set (n + (bl + 1 + 1)) x = A2 ++ c :: (B2 ++ d :: x :: T) := fun c d o x T => set_app3 hn' hbl'
  ((with_reducible refine enter_pu (ct) ?_ ?_ ?_); (· rfl); (· rfl); try simp -implicitDefEqProofs only [go_sem, *])
  ((with_reducible refine enter_pu (cI) ?_ ?_ ?_); (· rfl); (· rfl); try simp -implicitDefEqProofs only [go_sem, *])
  simp -implicitDefEqProofs only [go_sem, List.append_assoc, a0', a1', ax', bx2, k2, k3, cx2, cy2, bnn]
  (repeat' (first | ((with_reducible first | refine gon ?_ ?_ | refine gos ?_ ?_ | refine cdn ?_ ?_ | refine cds ?_ ?_ | refine gpn ?_ ?_ | refine gps ?_ ?_) <;> intro h <;> (try simp only [dt, df, gi, gt] at h) <;> try simp -implicitDefEqProofs only [go_sem, *]) | ((with_reducible refine And.intro ?_ ?_); (· first | omega | (simp only [List.length_take]; omega)); try simp -implicitDefEqProofs only [go_sem, *]) | ((with_reducible refine enter_pu (ceg) ?_ ?_ ?_); (· rfl); (· rfl); try simp -implicitDefEqProofs only [go_sem, *])))
  refine enter_see1 hh (.cons _ _ _ _ (see2 _ _) (.cons _ _ _ _ (see_same rfl) .nil)) rfl rfl ?_
  simp -implicitDefEqProofs only [go_sem, k2, k3]
  (repeat' (first | ((with_reducible first | refine gon ?_ ?_ | refine gos ?_ ?_ | refine cdn ?_ ?_ | refine cds ?_ ?_ | refine gpn ?_ ?_ | refine gps ?_ ?_) <;> intro h <;> (try simp only [dt, df, gi, gt] at h) <;> try simp -implicitDefEqProofs only [go_sem, *]) | ((with_reducible refine And.intro ?_ ?_); (· first | omega | (simp only [List.length_take]; omega)); try simp -implicitDefEqProofs only [go_sem, *]) | fail))
  all_goals exact fin_pu rfl rfl
theorem FnExactChangePut_no (e g : Eng) (b : Bool) (tx : Int) (page : Int) (slot : Int) (val : Int) (hs : e.small) (h0 : ¬ szE e 1048576 < 0) (hgz : g = zeroE)
    (cS : Fn1 Tryz.prog 49 [eA e, I tx, I page, I slot, I val] (.tup [eA g, Bo b])) (cI : Fn1 Tryz.prog 50 [eA e, I tx, I page, I slot, I val] (.tup [eA g, Bo b]))
    (cIo : Fn Tryz.prog 50 [eA e, I tx, I page, I slot, I val] (fun r S => r = .tup [zA, Bo b] ∧ S = [])) : Fn1 Tryz.prog 12 [eA e, I tx, I page, I slot, I val] (Bo true) := by
  have hg : g.mid := by rw [hgz]; exact zeroE_mid
  replace hgz := Hid.mk' hgz
  have hm : e.mid := mid_of h0
  have cz := szEngine_fn e 1048576 (by omega) hs
  have ct := toEngine_fn e hm
  have cto := toEngine_own e hm
  have ceg := eqEngine_fn g g hg.small
  rw [sameE_refl] at ceg
  have cee := eqEngine_fn e e hs
  rw [sameE_refl] at cee
  refine fn1_of Tryz.func12 rfl rfl ?_
  simp -implicitDefEqProofs only [go_sem, Tryz.f12]
  (repeat' (first | ((with_reducible first | refine gon ?_ ?_ | refine gos ?_ ?_ | refine cdn ?_ ?_ | refine cds ?_ ?_ | refine gpn ?_ ?_ | refine gps ?_ ?_) <;> intro h <;> (try simp only [dt, df, gi, gt] at h) <;> try simp -implicitDefEqProofs only [go_sem, *]) | ((with_reducible refine And.intro ?_ ?_); (· first | omega | (simp only [List.length_take]; omega)); try simp -implicitDefEqProofs only [go_sem, *]) | ((with_reducible refine enter_pu (cz) ?_ ?_ ?_); (· rfl); (· rfl); try simp -implicitDefEqProofs only [go_sem, *])))
  ((with_reducible refine enter_pu (ct) ?_ ?_ ?_); (· rfl); (· rfl); try simp -implicitDefEqProofs only [go_sem, *])
  (repeat' (first | ((with_reducible first | refine gon ?_ ?_ | refine gos ?_ ?_ | refine cdn ?_ ?_ | refine cds ?_ ?_ | refine gpn ?_ ?_ | refine gps ?_ ?_) <;> intro h <;> (try simp only [dt, df, gi, gt] at h) <;> try simp -implicitDefEqProofs only [go_sem, *]) | ((with_reducible refine And.intro ?_ ?_); (· first | omega | (simp only [List.length_take]; omega)); try simp -implicitDefEqProofs only [go_sem, *]) | ((with_reducible refine enter_pu (cS) ?_ ?_ ?_); (· rfl); (· rfl); try simp -implicitDefEqProofs only [go_sem, *])))
  obtain ⟨n1, hn1⟩ : ∃ n1, 2 + (1 + e.disk.length) = n1 := ⟨_, rfl⟩
  obtain ⟨n2, hn2⟩ : ∃ n2, 2 + (2 + e.disk.length + e.mem.length) = n2 := ⟨_, rfl⟩
  refine enter_fnE 2 n1 n2 rfl hn1 hn2 cto rfl ?_
  intro A hA
  obtain ⟨n, hn⟩ : ∃ n, A.length = n := ⟨_, rfl⟩
  have a0 : ∀ T, getO (A ++ T) 0 = some ⟨5, [eA e]⟩ := fun T => by rw [hA]; rfl
  have a1 : ∀ T, getO (A ++ T) 1 = some ⟨5, [eA g]⟩ := fun T => by rw [hA]; rfl
  have ax : ∀ (o : AObj) T, getO (A ++ some o :: T) n = some o := fun o T => by rw [← hn]; exact getO_app
  have ay : ∀ (o x : Option AObj) T, (A ++ o :: T).set n x = A ++ x :: T := fun o x T => by rw [← hn]; exact set_app
  replace hA := Hid.mk' hA
  simp -implicitDefEqProofs only [go_sem, List.append_assoc, hn, ax, ay, a0, a1]
  have hHx : ∀ T, Has (A ++ T) 2 (dS 2 e) := fun T => by
    rw [hA]
    exact Has.mid rfl
  refine enter_see cIo (.cons _ _ _ _ (see_dV hn1 hn2 (hHx _)) (.cons _ _ _ _ (see_same rfl) (.cons _ _ _ _ (see_same rfl) (.cons _ _ _ _ (see_same rfl) (.cons _ _ _ _ (see_same rfl) .nil))))) rfl (fun o ho => by cases ho) ?_
  have bx : ∀ (c : Option AObj) (o : AObj) T, getO (A ++ c :: some o :: T) (n + 1) = some o := fun c o T => getO_app2 (B := []) hn rfl
  have by' : ∀ (c o x : Option AObj) T, (A ++ c :: o :: T).set (n + 1) x = A ++ c :: x :: T := fun c o x T => set_app2 (B := []) hn rfl
  have bnn : (b == b) = true := by cases b <;> rfl
  simp -implicitDefEqProofs only [go_sem, shS, List.map_nil, List.append_nil, List.append_assoc, hn, ax, ay, a0, a1, bx, by']
  have seeG : ∀ S, Sees S true zA (eA g) := fun S => by rw [hgz]; exact see_z
  refine enter_see1 ceg (.cons _ _ _ _ (seeG _) (.cons _ _ _ _ (see_same rfl) .nil)) rfl rfl ?_
  simp -implicitDefEqProofs only [go_sem, ax, ay, a0, a1, bx, by', bnn]
  refine cp_drawG (id := 10) 5 (fun S => getO S n = some ⟨5, [dV 2 n1 n2 e]⟩ ∧ getO S 0 = some ⟨5, [eA e]⟩) mixed rfl ?_
  (refine expG_get 0 (dV 2 n1 n2 e) rfl ?_ ?_ ⟨ax _ _, a0 _⟩ ?_ ?_); (· decide +kernel); (· decide +kernel); (· (rintro S ⟨hS0, hS1⟩; simp -implicitDefEqProofs only [go_sem, hS0, hS1, *])); try simp -implicitDefEqProofs only [go_sem, List.set_cons_succ, List.set_cons_zero]
  (refine expG_get 1 (eA e) rfl ?_ ?_ ⟨ax _ _, a0 _⟩ ?_ ?_); (· decide +kernel); (· decide +kernel); (· (rintro S ⟨hS0, hS1⟩; simp -implicitDefEqProofs only [go_sem, hS0, hS1, *])); try simp -implicitDefEqProofs only [go_sem, List.set_cons_succ, List.set_cons_zero]
  ((with_reducible refine expG_one 2 ?_ ?_); (· decide +kernel); try simp -implicitDefEqProofs only [go_sem, *])
  ((with_reducible refine enter_pu (ct) ?_ ?_ ?_); (· rfl); (· rfl); try simp -implicitDefEqProofs only [go_sem, *])
  ((with_reducible refine expG_one 3 ?_ ?_); (· decide +kernel); try simp -implicitDefEqProofs only [go_sem, *])
  refine enter_see1 cee (.cons _ _ _ _ (see_dV hn1 hn2 (hHx _)) (.cons _ _ _ _ (see_same rfl) .nil)) rfl rfl ?_
  simp -implicitDefEqProofs only [go_sem, ax, a0]
  (repeat' (first | ((with_reducible first | refine gon ?_ ?_ | refine gos ?_ ?_ | refine cdn ?_ ?_ | refine cds ?_ ?_ | refine gpn ?_ ?_ | refine gps ?_ ?_) <;> intro h <;> (try simp only [dt, df, gi, gt] at h) <;> try simp -implicitDefEqProofs only [go_sem, *]) | ((with_reducible refine And.intro ?_ ?_); (· first | omega | (simp only [List.length_take]; omega)); try simp -implicitDefEqProofs only [go_sem, *]) | first | ((with_reducible refine expG_one 4 ?_ ?_); (· decide +kernel); try simp -implicitDefEqProofs only [go_sem, *]) | ((with_reducible refine expG_end ?_ ?_); (· decide +kernel); try simp -implicitDefEqProofs only [go_sem, *])))
  refine enter_mid 2 (A := [some ⟨5, [eA e]⟩, some ⟨5, [eA g]⟩]) (X0 := dS 0 e) (X1 := dS 0 (markE 1 e)) (B := some ⟨5, [dV 2 n1 n2 e]⟩ :: [some ⟨5, [zA]⟩]) (args' := [dE 0 e, I 1]) (markEngine_c e hm) ?_ rfl dS_mark_len (by rw [dS_len]; exact cl_dS (by omega)) ?_ rfl ?_ ?_ ?_
  · rw [sh_dS, hA]
  · rw [← dS_mark_len (k := 1), dS_len]
    exact cl_dS (by omega)
  · rw [List.map_cons, sh_dE, Nat.add_zero, ← dV_eq hn1 hn2, List.map_cons, List.map_nil, sh_prim]
  · simp only [List.all_cons, List.all_nil, Bool.and_true]
    rw [dS_len]
    exact Bool.and_eq_true_iff.2 ⟨cl_dE (by omega), rfl⟩
  obtain ⟨A2, hA2⟩ : ∃ A2, [some ⟨5, [eA e]⟩, some ⟨5, [eA g]⟩] ++ shS 2 (dS 0 (markE 1 e)) = A2 := ⟨_, rfl⟩
  have hn' : A2.length = n := by
    have h1 : A = [some ⟨5, [eA e]⟩, some ⟨5, [eA g]⟩] ++ dS 2 e := hA
    rw [← hA2, ← hn, h1, List.length_append, List.length_append, shS_len, dS_mark_len, dS_len, dS_len]
  have a0' : ∀ T, getO (A2 ++ T) 0 = some ⟨5, [eA e]⟩ := fun T => by rw [← hA2]; rfl
  have a1' : ∀ T, getO (A2 ++ T) 1 = some ⟨5, [eA g]⟩ := fun T => by rw [← hA2]; rfl
  have ax' : ∀ (o : AObj) T, getO (A2 ++ some o :: T) n = some o := fun o T => by rw [← hn']; exact getO_app
  have k1 : ¬ (1 + (cntE e : Int) < 0) := by omega
  have k2 : ¬ (1 + (cntE g : Int) < 0) := by omega
  have k3 : ((1 + (cntE g : Int)) != (1 + (cntE g : Int))) = false := by simp
  have hh := heldEngine_fn g hg
  have bx' : ∀ (c : Option AObj) (o : AObj) T, getO (A2 ++ c :: some o :: T) (n + 1) = some o := fun c o T => getO_app2 (B := []) hn' rfl
  rw [hA2]
  clear hA2
  simp -implicitDefEqProofs only [go_sem, a0', a1', ax', bx', k1]
  refine enter_see1 ceg (.cons _ _ _ _ (seeG _) (.cons _ _ _ _ (see_same rfl) .nil)) rfl rfl ?_
  simp -implicitDefEqProofs only [go_sem, a0', a1', ax', bx', bnn]
  (repeat' (first | ((with_reducible first | refine gon ?_ ?_ | refine gos ?_ ?_ | refine cdn ?_ ?_ | refine cds ?_ ?_ | refine gpn ?_ ?_ | refine gps ?_ ?_) <;> intro h <;> (try simp only [dt, df, gi, gt] at h) <;> try simp -implicitDefEqProofs only [go_sem, *]) | ((with_reducible refine And.intro ?_ ?_); (· first | omega | (simp only [List.length_take]; omega)); try simp -implicitDefEqProofs only [go_sem, *]) | ((with_reducible refine enter_pu (markZ) ?_ ?_ ?_); (· rfl); (· rfl); try simp -implicitDefEqProofs only [go_sem, *])))
  have e1 : markE 1 g = g := by rw [hgz]; rfl
  have e2 : (1 + (cntE g : Int)) = 1 := by rw [hgz]; rfl
  rw [e1, e2] at hh
  refine enter_see1 hh (.cons _ _ _ _ (seeG _) (.cons _ _ _ _ (see_same rfl) .nil)) rfl rfl ?_
  simp -implicitDefEqProofs only [go_sem, a0', a1', ax', bx']
  (repeat' (first | ((with_reducible first | refine gon ?_ ?_ | refine gos ?_ ?_ | refine cdn ?_ ?_ | refine cds ?_ ?_ | refine gpn ?_ ?_ | refine gps ?_ ?_) <;> intro h <;> (try simp only [dt, df, gi, gt] at h) <;> try simp -implicitDefEqProofs only [go_sem, *]) | ((with_reducible refine And.intro ?_ ?_); (· first | omega | (simp only [List.length_take]; omega)); try simp -implicitDefEqProofs only [go_sem, *]) | fail))
  have cx2 : ∀ (c d : Option AObj) (o : AObj) T, getO (A2 ++ c :: d :: some o :: T) (n + (1 + 1)) = some o := fun c d o T => getO_app3 (B := []) hn' rfl
  have cy2 : ∀ (c d o x : Option AObj) T, (A2 ++ c :: d :: o :: T).set (n + (1 + 1)) x = A2 ++ c :: d :: x :: T := fun c d o x T => set_app3 (B := []) hn' rfl
  ((with_reducible refine enter_pu (ct) ?_ ?_ ?_); (· rfl); (· rfl); try simp -implicitDefEqProofs only [go_sem, *])
  ((with_reducible refine enter_pu (cI) ?_ ?_ ?_); (· rfl); (· rfl); try simp -implicitDefEqProofs only [go_sem, *])
  simp -implicitDefEqProofs only [go_sem, List.append_assoc, a0', a1', ax', bx', cx2, cy2, bnn]
  (repeat' (first | ((with_reducible first | refine gon ?_ ?_ | refine gos ?_ ?_ | refine cdn ?_ ?_ | refine cds ?_ ?_ | refine gpn ?_ ?_ | refine gps ?_ ?_) <;> intro h <;> (try simp only [dt, df, gi, gt] at h) <;> try simp -implicitDefEqProofs only [go_sem, *]) | ((with_reducible refine And.intro ?_ ?_); (· first | omega | (simp only [List.length_take]; omega)); try simp -implicitDefEqProofs only [go_sem, *]) | ((with_reducible refine enter_pu (ceg) ?_ ?_ ?_); (· rfl); (· rfl); try simp -implicitDefEqProofs only [go_sem, *])))
  refine enter_see1 hh (.cons _ _ _ _ (seeG _) (.cons _ _ _ _ (see_same rfl) .nil)) rfl rfl ?_
  simp -implicitDefEqProofs only [go_sem, true_and]
  (repeat' (first | ((with_reducible first | refine gon ?_ ?_ | refine gos ?_ ?_ | refine cdn ?_ ?_ | refine cds ?_ ?_ | refine gpn ?_ ?_ | refine gps ?_ ?_) <;> intro h <;> (try simp only [dt, df, gi, gt] at h) <;> try simp -implicitDefEqProofs only [go_sem, *]) | ((with_reducible refine And.intro ?_ ?_); (· first | omega | (simp only [List.length_take]; omega)); try simp -implicitDefEqProofs only [go_sem, *]) | fail))
  all_goals exact fin_pu rfl rfl
theorem FnExactChangePut_out (e : Eng) (tx : Int) (page : Int) (slot : Int) (val : Int) (hs : e.small) (h0 : szE e 1048576 < 0) : Fn1 Tryz.prog 12 [eA e, I tx, I page, I slot, I val] (Bo true) := by
  have cz := szEngine_fn e 1048576 (by omega) hs
  refine fn1_of Tryz.func12 rfl rfl ?_
  simp -implicitDefEqProofs only [go_sem, Tryz.f12, h0]
  (repeat' (first | ((with_reducible first | refine gon ?_ ?_ | refine gos ?_ ?_ | refine cdn ?_ ?_ | refine cds ?_ ?_ | refine gpn ?_ ?_ | refine gps ?_ ?_) <;> intro h <;> (try simp only [dt, df, gi, gt] at h) <;> try simp -implicitDefEqProofs only [go_sem, *]) | ((with_reducible refine And.intro ?_ ?_); (· first | omega | (simp only [List.length_take]; omega)); try simp -implicitDefEqProofs only [go_sem, *]) | ((with_reducible refine enter_pu (cz) ?_ ?_ ?_); (· rfl); (· rfl); try simp -implicitDefEqProofs only [go_sem, *])))
  exact fin_pu rfl rfl
theorem ExactChangePut_law (e : Eng) (hs : e.small) (tx : Int) (page : Int) (slot : Int) (val : Int) : Fn1 Tryz.prog 12 [eA e, I tx, I page, I slot, I val] (Bo true) := by
  by_cases h0 : szE e 1048576 < 0
  · exact FnExactChangePut_out e tx page slot val hs h0
  have cS := ChangePutS_fn e tx page slot val hs
  have cI := ChangePutI_fn e tx page slot val hs
  rcases hok : okE e with _ | _
  · have hf : putD e tx page slot val = (zeroE, false) := by unfold putD; rw [if_neg (by rw [hok]; decide)]
    rw [hf] at cS cI
    exact FnExactChangePut_no e zeroE false tx page slot val hs h0 rfl cS cI (ChangePutI_none e tx page slot val hok hs)
  · have hi := inv_of_ok hok
    have co := ChangePutI_own e tx page slot val hok hs
    have hf : putD e tx page slot val = e.put tx page slot val := by unfold putD; rw [if_pos hok]
    have hg : (e.put tx page slot val).1.mid := inv_mid (put_inv hi tx page slot val)
    rw [hf] at cS cI
    obtain ⟨⟨q, b⟩, hq⟩ : ∃ q, e.put tx page slot val = q := ⟨_, rfl⟩
    rw [hq] at cS cI co hg
    exact FnExactChangePut_ok e q b tx page slot val hs h0 hg cS cI co
end
section
attribute [local go_sem] slt_r slt_I slt_p
theorem FnExactChangeOwn_ok (e g : Eng) (b : Bool) (tx : Int) (page : Int) (table : Int) (hs : e.small) (h0 : ¬ szE e 1048576 < 0) (hg : g.mid)
    (cS : Fn1 Tryz.prog 51 [eA e, I tx, I page, I table] (.tup [eA g, Bo b])) (cI : Fn1 Tryz.prog 52 [eA e, I tx, I page, I table] (.tup [eA g, Bo b]))
    (cIo : Fn Tryz.prog 52 [eA e, I tx, I page, I table] (fun r S => r = dR (g, b) ∧ S = dS 0 g)) : Fn1 Tryz.prog 13 [eA e, I tx, I page, I table] (Bo true) := by
  have hm : e.mid := mid_of h0
  have cz := szEngine_fn e 1048576 (by omega) hs
  have ct := toEngine_fn e hm
  have cto := toEngine_own e hm
  have ceg := eqEngine_fn g g hg.small
  rw [sameE_refl] at ceg
  have cee := eqEngine_fn e e hs
  rw [sameE_refl] at cee
  refine fn1_of Tryz.func13 rfl rfl ?_
  simp -implicitDefEqProofs only [go_sem, Tryz.f13]
  (repeat' (first | ((with_reducible first | refine gon ?_ ?_ | refine gos ?_ ?_ | refine cdn ?_ ?_ | refine cds ?_ ?_ | refine gpn ?_ ?_ | refine gps ?_ ?_) <;> intro h <;> (try simp only [dt, df, gi, gt] at h) <;> try simp -implicitDefEqProofs only [go_sem, *]) | ((with_reducible refine And.intro ?_ ?_); (· first | omega | (simp only [List.length_take]; omega)); try simp -implicitDefEqProofs only [go_sem, *]) | ((with_reducible refine enter_pu (cz) ?_ ?_ ?_); (· rfl); (· rfl); try simp -implicitDefEqProofs only [go_sem, *])))
  ((with_reducible refine enter_pu (ct) ?_ ?_ ?_); (· rfl); (· rfl); try simp -implicitDefEqProofs only [go_sem, *])
  (repeat' (first | ((with_reducible first | refine gon ?_ ?_ | refine gos ?_ ?_ | refine cdn ?_ ?_ | refine cds ?_ ?_ | refine gpn ?_ ?_ | refine gps ?_ ?_) <;> intro h <;> (try simp only [dt, df, gi, gt] at h) <;> try simp -implicitDefEqProofs only [go_sem, *]) | ((with_reducible refine And.intro ?_ ?_); (· first | omega | (simp only [List.length_take]; omega)); try simp -implicitDefEqProofs only [go_sem, *]) | ((with_reducible refine enter_pu (cS) ?_ ?_ ?_); (· rfl); (· rfl); try simp -implicitDefEqProofs only [go_sem, *])))
  obtain ⟨n1, hn1⟩ : ∃ n1, 2 + (1 + e.disk.length) = n1 := ⟨_, rfl⟩
  obtain ⟨n2, hn2⟩ : ∃ n2, 2 + (2 + e.disk.length + e.mem.length) = n2 := ⟨_, rfl⟩
  refine enter_fnE 2 n1 n2 rfl hn1 hn2 cto rfl ?_
  intro A hA
  obtain ⟨n, hn⟩ : ∃ n, A.length = n := ⟨_, rfl⟩
  have a0 : ∀ T, getO (A ++ T) 0 = some ⟨5, [eA e]⟩ := fun T => by rw [hA]; rfl
  have a1 : ∀ T, getO (A ++ T) 1 = some ⟨5, [eA g]⟩ := fun T => by rw [hA]; rfl
  have ax : ∀ (o : AObj) T, getO (A ++ some o :: T) n = some o := fun o T => by rw [← hn]; exact getO_app
  have ay : ∀ (o x : Option AObj) T, (A ++ o :: T).set n x = A ++ x :: T := fun o x T => by rw [← hn]; exact set_app
  replace hA := Hid.mk' hA
  simp -implicitDefEqProofs only [go_sem, List.append_assoc, hn, ax, ay, a0, a1]
  have hHx : ∀ T, Has (A ++ T) 2 (dS 2 e) := fun T => by
    rw [hA]
    exact Has.mid rfl
  obtain ⟨m1, hm1⟩ : ∃ m1, n + 1 + (1 + g.disk.length) = m1 := ⟨_, rfl⟩
  obtain ⟨m2, hm2⟩ : ∃ m2, n + 1 + (2 + g.disk.length + g.mem.length) = m2 := ⟨_, rfl⟩
  refine enter_seeE (n + 1) m1 m2 (by rw [List.length_append, hn]; rfl) hm1 hm2 cIo (.cons _ _ _ _ (see_dV hn1 hn2 (hHx _)) (.cons _ _ _ _ (see_same rfl) (.cons _ _ _ _ (see_same rfl) (.cons _ _ _ _ (see_same rfl) .nil)))) ?_
  intro B hB
  obtain ⟨bl, hbl⟩ : ∃ bl, B.length = bl := ⟨_, rfl⟩
  replace hB := Hid.mk' hB
  have bx : ∀ (c : Option AObj) (o : AObj) T, getO (A ++ c :: (B ++ some o :: T)) (n + (bl + 1)) = some o := fun c o T => getO_app2 hn hbl
  have by' : ∀ (c o x : Option AObj) T, (A ++ c :: (B ++ o :: T)).set (n + (bl + 1)) x = A ++ c :: (B ++ x :: T) := fun c o x T => set_app2 hn hbl
  have bnn : (b == b) = true := by cases b <;> rfl
  simp -implicitDefEqProofs only [go_sem, List.append_assoc, hn, hbl, ax, ay, a0, a1, bx, by']
  have seeG : ∀ c T, Sees (A ++ c :: (B ++ T)) true (dV (n + 1) m1 m2 g) (eA g) := fun c T => by
    have h : B = dS (n + 1) g := hB
    refine see_dV hm1 hm2 ?_
    rw [← h]
    exact has_app2 hn
  refine enter_see1 ceg (.cons _ _ _ _ (seeG _ _) (.cons _ _ _ _ (see_same rfl) .nil)) rfl rfl ?_
  simp -implicitDefEqProofs only [go_sem, ax, ay, a0, a1, bx, by', bnn]
  refine cp_drawG (id := 10) 5 (fun S => getO S n = some ⟨5, [dV 2 n1 n2 e]⟩ ∧ getO S 0 = some ⟨5, [eA e]⟩) mixed rfl ?_
  (refine expG_get 0 (dV 2 n1 n2 e) rfl ?_ ?_ ⟨ax _ _, a0 _⟩ ?_ ?_); (· decide +kernel); (· decide +kernel); (· (rintro S ⟨hS0, hS1⟩; simp -implicitDefEqProofs only [go_sem, hS0, hS1, *])); try simp -implicitDefEqProofs only [go_sem, List.set_cons_succ, List.set_cons_zero]
  (refine expG_get 1 (eA e) rfl ?_ ?_ ⟨ax _ _, a0 _⟩ ?_ ?_); (· decide +kernel); (· decide +kernel); (· (rintro S ⟨hS0, hS1⟩; simp -implicitDefEqProofs only [go_sem, hS0, hS1, *])); try simp -implicitDefEqProofs only [go_sem, List.set_cons_succ, List.set_cons_zero]
  ((with_reducible refine expG_one 2 ?_ ?_); (· decide +kernel); try simp -implicitDefEqProofs only [go_sem, *])
  ((with_reducible refine enter_pu (ct) ?_ ?_ ?_); (· rfl); (· rfl); try simp -implicitDefEqProofs only [go_sem, *])
  ((with_reducible refine expG_one 3 ?_ ?_); (· decide +kernel); try simp -implicitDefEqProofs only [go_sem, *])
  refine enter_see1 cee (.cons _ _ _ _ (see_dV hn1 hn2 (hHx _)) (.cons _ _ _ _ (see_same rfl) .nil)) rfl rfl ?_
  simp -implicitDefEqProofs only [go_sem, ax, a0]
  (repeat' (first | ((with_reducible first | refine gon ?_ ?_ | refine gos ?_ ?_ | refine cdn ?_ ?_ | refine cds ?_ ?_ | refine gpn ?_ ?_ | refine gps ?_ ?_) <;> intro h <;> (try simp only [dt, df, gi, gt] at h) <;> try simp -implicitDefEqProofs only [go_sem, *]) | ((with_reducible refine And.intro ?_ ?_); (· first | omega | (simp only [List.length_take]; omega)); try simp -implicitDefEqProofs only [go_sem, *]) | first | ((with_reducible refine expG_one 4 ?_ ?_); (· decide +kernel); try simp -implicitDefEqProofs only [go_sem, *]) | ((with_reducible refine expG_end ?_ ?_); (· decide +kernel); try simp -implicitDefEqProofs only [go_sem, *])))
  refine enter_mid 2 (A := [some ⟨5, [eA e]⟩, some ⟨5, [eA g]⟩]) (X0 := dS 0 e) (X1 := dS 0 (markE 1 e)) (B := some ⟨5, [dV 2 n1 n2 e]⟩ :: (B ++ [some ⟨5, [dV (n + 1) m1 m2 g]⟩])) (args' := [dE 0 e, I 1]) (markEngine_c e hm) ?_ rfl dS_mark_len (by rw [dS_len]; exact cl_dS (by omega)) ?_ rfl ?_ ?_ ?_
  · rw [sh_dS, hA]
  · rw [← dS_mark_len (k := 1), dS_len]
    exact cl_dS (by omega)
  · rw [List.map_cons, sh_dE, Nat.add_zero, ← dV_eq hn1 hn2, List.map_cons, List.map_nil, sh_prim]
  · simp only [List.all_cons, List.all_nil, Bool.and_true]
    rw [dS_len]
    exact Bool.and_eq_true_iff.2 ⟨cl_dE (by omega), rfl⟩
  obtain ⟨A2, hA2⟩ : ∃ A2, [some ⟨5, [eA e]⟩, some ⟨5, [eA g]⟩] ++ shS 2 (dS 0 (markE 1 e)) = A2 := ⟨_, rfl⟩
  have hn' : A2.length = n := by
    have h1 : A = [some ⟨5, [eA e]⟩, some ⟨5, [eA g]⟩] ++ dS 2 e := hA
    rw [← hA2, ← hn, h1, List.length_append, List.length_append, shS_len, dS_mark_len, dS_len, dS_len]
  have a0' : ∀ T, getO (A2 ++ T) 0 = some ⟨5, [eA e]⟩ := fun T => by rw [← hA2]; rfl
  have a1' : ∀ T, getO (A2 ++ T) 1 = some ⟨5, [eA g]⟩ := fun T => by rw [← hA2]; rfl
  have ax' : ∀ (o : AObj) T, getO (A2 ++ some o :: T) n = some o := fun o T => by rw [← hn']; exact getO_app
  have k1 : ¬ (1 + (cntE e : Int) < 0) := by omega
  have k2 : ¬ (1 + (cntE g : Int) < 0) := by omega
  have k3 : ((1 + (cntE g : Int)) != (1 + (cntE g : Int))) = false := by simp
  have hh := heldEngine_fn g hg
  have bx' : ∀ (c : Option AObj) (o : AObj) T, getO (A2 ++ c :: (B ++ some o :: T)) (n + (bl + 1)) = some o := fun c o T => getO_app2 hn' hbl
  have seeG' : ∀ c T, Sees (A2 ++ c :: (B ++ T)) true (dV (n + 1) m1 m2 g) (eA g) := fun c T => by
    have h : B = dS (n + 1) g := hB
    refine see_dV hm1 hm2 ?_
    rw [← h]
    exact has_app2 hn'
  rw [hA2]
  clear hA2
  simp -implicitDefEqProofs only [go_sem, a0', a1', ax', bx', k1]
  refine enter_see1 ceg (.cons _ _ _ _ (seeG' _ _) (.cons _ _ _ _ (see_same rfl) .nil)) rfl rfl ?_
  simp -implicitDefEqProofs only [go_sem, a0', a1', ax', bx', bnn]
  (repeat' (first | ((with_reducible first | refine gon ?_ ?_ | refine gos ?_ ?_ | refine cdn ?_ ?_ | refine cds ?_ ?_ | refine gpn ?_ ?_ | refine gps ?_ ?_) <;> intro h <;> (try simp only [dt, df, gi, gt] at h) <;> try simp -implicitDefEqProofs only [go_sem, *]) | ((with_reducible refine And.intro ?_ ?_); (· first | omega | (simp only [List.length_take]; omega)); try simp -implicitDefEqProofs only [go_sem, *]) | fail))
  refine enter_mid (n + 1) (A := A2 ++ [some ⟨5, [dV 2 n1 n2 e]⟩]) (X0 := dS 0 g) (X1 := dS 0 (markE 1 g)) (B := [some ⟨5, [dV (n + 1) m1 m2 g]⟩]) (args' := [dE 0 g, I 1]) (markEngine_c g hg) ?_ (by rw [List.length_append, hn']; rfl) dS_mark_len (by rw [dS_len]; exact cl_dS (by omega)) ?_ rfl ?_ ?_ ?_
  · have h : B = dS (n + 1) g := hB
    rw [sh_dS, Nat.add_zero, ← h, List.append_assoc, List.append_assoc]
    rfl
  · rw [← dS_mark_len (k := 1), dS_len]
    exact cl_dS (by omega)
  · rw [List.map_cons, sh_dE, Nat.add_zero, ← dV_eq hm1 hm2, List.map_cons, List.map_nil, sh_prim]
  · simp only [List.all_cons, List.all_nil, Bool.and_true]
    rw [dS_len]
    exact Bool.and_eq_true_iff.2 ⟨cl_dE (by omega), rfl⟩
  obtain ⟨B2, hB2⟩ : ∃ B2, shS (n + 1) (dS 0 (markE 1 g)) = B2 := ⟨_, rfl⟩
  have hbl' : B2.length = bl := by
    have h : B = dS (n + 1) g := hB
    rw [← hB2, ← hbl, h, shS_len, dS_mark_len, dS_len, dS_len]
  have bx2 : ∀ (c : Option AObj) (o : AObj) T, getO (A2 ++ c :: (B2 ++ some o :: T)) (n + (bl + 1)) = some o := fun c o T => getO_app2 hn' hbl'
  have see2 : ∀ c T, Sees (A2 ++ c :: (B2 ++ T)) true (dV (n + 1) m1 m2 g) (eA (markE 1 g)) := fun c T => by
    have h : dS (n + 1) (markE 1 g) = B2 := by rw [← hB2, sh_dS, Nat.add_zero]
    rw [dV_eq hm1 hm2, ← dE_mark (k := 1)]
    refine see_dE ?_
    rw [h]
    exact has_app2 hn'
  rw [hB2]
  clear hB2
  simp -implicitDefEqProofs only [go_sem, List.append_assoc, a0', a1', ax', bx2, k2]
  refine enter_see1 hh (.cons _ _ _ _ (see2 _ _) (.cons _ _ _ _ (see_same rfl) .nil)) rfl rfl ?_
  simp -implicitDefEqProofs only [go_sem, a0', a1', ax', bx2, k2, k3]
  have cx2 : ∀ (c d : Option AObj) (o : AObj) T, getO (A2 ++ c :: (B2 ++ d :: some o :: T)) (n + (bl + 1 + 1)) = some o := fun c d o T => getO_app3 hn' hbl'
  have cy2 : ∀ (c d o x : Option AObj) T, (A2 ++ c :: (B2 ++ d :: o :: T)).set (n + (bl + 1 + 1)) x = A2 ++ c :: (B2 ++ d :: x :: T) := fun c d o x T => set_app3 hn' hbl'
  ((with_reducible refine enter_pu (ct) ?_ ?_ ?_); (· rfl); (· rfl); try simp -implicitDefEqProofs only [go_sem, *])
  ((with_reducible refine enter_pu (cI) ?_ ?_ ?_); (· rfl); (· rfl); try simp -implicitDefEqProofs only [go_sem, *])
  simp -implicitDefEqProofs only [go_sem, List.append_assoc, a0', a1', ax', bx2, k2, k3, cx2, cy2, bnn]
  (repeat' (first | ((with_reducible first | refine gon ?_ ?_ | refine gos ?_ ?_ | refine cdn ?_ ?_ | refine cds ?_ ?_ | refine gpn ?_ ?_ | refine gps ?_ ?_) <;> intro h <;> (try simp only [dt, df, gi, gt] at h) <;> try simp -implicitDefEqProofs only [go_sem, *]) | ((with_reducible refine And.intro ?_ ?_); (· first | omega | (simp only [List.length_take]; omega)); try simp -implicitDefEqProofs only [go_sem, *]) | ((with_reducible refine enter_pu (ceg) ?_ ?_ ?_); (· rfl); (· rfl); try simp -implicitDefEqProofs only [go_sem, *])))
  refine enter_see1 hh (.cons _ _ _ _ (see2 _ _) (.cons _ _ _ _ (see_same rfl) .nil)) rfl rfl ?_
  simp -implicitDefEqProofs only [go_sem, k2, k3]
  (repeat' (first | ((with_reducible first | refine gon ?_ ?_ | refine gos ?_ ?_ | refine cdn ?_ ?_ | refine cds ?_ ?_ | refine gpn ?_ ?_ | refine gps ?_ ?_) <;> intro h <;> (try simp only [dt, df, gi, gt] at h) <;> try simp -implicitDefEqProofs only [go_sem, *]) | ((with_reducible refine And.intro ?_ ?_); (· first | omega | (simp only [List.length_take]; omega)); try simp -implicitDefEqProofs only [go_sem, *]) | fail))
  all_goals exact fin_pu rfl rfl
theorem FnExactChangeOwn_no (e g : Eng) (b : Bool) (tx : Int) (page : Int) (table : Int) (hs : e.small) (h0 : ¬ szE e 1048576 < 0) (hgz : g = zeroE)
    (cS : Fn1 Tryz.prog 51 [eA e, I tx, I page, I table] (.tup [eA g, Bo b])) (cI : Fn1 Tryz.prog 52 [eA e, I tx, I page, I table] (.tup [eA g, Bo b]))
    (cIo : Fn Tryz.prog 52 [eA e, I tx, I page, I table] (fun r S => r = .tup [zA, Bo b] ∧ S = [])) : Fn1 Tryz.prog 13 [eA e, I tx, I page, I table] (Bo true) := by
  have hg : g.mid := by rw [hgz]; exact zeroE_mid
  replace hgz := Hid.mk' hgz
  have hm : e.mid := mid_of h0
  have cz := szEngine_fn e 1048576 (by omega) hs
  have ct := toEngine_fn e hm
  have cto := toEngine_own e hm
  have ceg := eqEngine_fn g g hg.small
  rw [sameE_refl] at ceg
  have cee := eqEngine_fn e e hs
  rw [sameE_refl] at cee
  refine fn1_of Tryz.func13 rfl rfl ?_
  simp -implicitDefEqProofs only [go_sem, Tryz.f13]
  (repeat' (first | ((with_reducible first | refine gon ?_ ?_ | refine gos ?_ ?_ | refine cdn ?_ ?_ | refine cds ?_ ?_ | refine gpn ?_ ?_ | refine gps ?_ ?_) <;> intro h <;> (try simp only [dt, df, gi, gt] at h) <;> try simp -implicitDefEqProofs only [go_sem, *]) | ((with_reducible refine And.intro ?_ ?_); (· first | omega | (simp only [List.length_take]; omega)); try simp -implicitDefEqProofs only [go_sem, *]) | ((with_reducible refine enter_pu (cz) ?_ ?_ ?_); (· rfl); (· rfl); try simp -implicitDefEqProofs only [go_sem, *])))
  ((with_reducible refine enter_pu (ct) ?_ ?_ ?_); (· rfl); (· rfl); try simp -implicitDefEqProofs only [go_sem, *])
  (repeat' (first | ((with_reducible first | refine gon ?_ ?_ | refine gos ?_ ?_ | refine cdn ?_ ?_ | refine cds ?_ ?_ | refine gpn ?_ ?_ | refine gps ?_ ?_) <;> intro h <;> (try simp only [dt, df, gi, gt] at h) <;> try simp -implicitDefEqProofs only [go_sem, *]) | ((with_reducible refine And.intro ?_ ?_); (· first | omega | (simp only [List.length_take]; omega)); try simp -implicitDefEqProofs only [go_sem, *]) | ((with_reducible refine enter_pu (cS) ?_ ?_ ?_); (· rfl); (· rfl); try simp -implicitDefEqProofs only [go_sem, *])))
  obtain ⟨n1, hn1⟩ : ∃ n1, 2 + (1 + e.disk.length) = n1 := ⟨_, rfl⟩
  obtain ⟨n2, hn2⟩ : ∃ n2, 2 + (2 + e.disk.length + e.mem.length) = n2 := ⟨_, rfl⟩
  refine enter_fnE 2 n1 n2 rfl hn1 hn2 cto rfl ?_
  intro A hA
  obtain ⟨n, hn⟩ : ∃ n, A.length = n := ⟨_, rfl⟩
  have a0 : ∀ T, getO (A ++ T) 0 = some ⟨5, [eA e]⟩ := fun T => by rw [hA]; rfl
  have a1 : ∀ T, getO (A ++ T) 1 = some ⟨5, [eA g]⟩ := fun T => by rw [hA]; rfl
  have ax : ∀ (o : AObj) T, getO (A ++ some o :: T) n = some o := fun o T => by rw [← hn]; exact getO_app
  have ay : ∀ (o x : Option AObj) T, (A ++ o :: T).set n x = A ++ x :: T := fun o x T => by rw [← hn]; exact set_app
  replace hA := Hid.mk' hA
  simp -implicitDefEqProofs only [go_sem, List.append_assoc, hn, ax, ay, a0, a1]
  have hHx : ∀ T, Has (A ++ T) 2 (dS 2 e) := fun T => by
    rw [hA]
    exact Has.mid rfl
  refine enter_see cIo (.cons _ _ _ _ (see_dV hn1 hn2 (hHx _)) (.cons _ _ _ _ (see_same rfl) (.cons _ _ _ _ (see_same rfl) (.cons _ _ _ _ (see_same rfl) .nil)))) rfl (fun o ho => by cases ho) ?_
  have bx : ∀ (c : Option AObj) (o : AObj) T, getO (A ++ c :: some o :: T) (n + 1) = some o := fun c o T => getO_app2 (B := []) hn rfl
  have by' : ∀ (c o x : Option AObj) T, (A ++ c :: o :: T).set (n + 1) x = A ++ c :: x :: T := fun c o x T => set_app2 (B := []) hn rfl
  have bnn : (b == b) = true := by cases b <;> rfl
  simp -implicitDefEqProofs only [go_sem, shS, List.map_nil, List.append_nil, List.append_assoc, hn, ax, ay, a0, a1, bx, by']
  have seeG : ∀ S, Sees S true zA (eA g) := fun S => by rw [hgz]; exact see_z
  refine enter_see1 ceg (.cons _ _ _ _ (seeG _) (.cons _ _ _ _ (see_same rfl) .nil)) rfl rfl ?_
  simp -implicitDefEqProofs only [go_sem, ax, ay, a0, a1, bx, by', bnn]
  refine cp_drawG (id := 10) 5 (fun S => getO S n = some ⟨5, [dV 2 n1 n2 e]⟩ ∧ getO S 0 = some ⟨5, [eA e]⟩) mixed rfl ?_
  (refine expG_get 0 (dV 2 n1 n2 e) rfl ?_ ?_ ⟨ax _ _, a0 _⟩ ?_ ?_); (· decide +kernel); (· decide +kernel); (· (rintro S ⟨hS0, hS1⟩; simp -implicitDefEqProofs only [go_sem, hS0, hS1, *])); try simp -implicitDefEqProofs only [go_sem, List.set_cons_succ, List.set_cons_zero]
  (refine expG_get 1 (eA e) rfl ?_ ?_ ⟨ax _ _, a0 _⟩ ?_ ?_); (· decide +kernel); (· decide +kernel); (· (rintro S ⟨hS0, hS1⟩; simp -implicitDefEqProofs only [go_sem, hS0, hS1, *])); try simp -implicitDefEqProofs only [go_sem, List.set_cons_succ, List.set_cons_zero]
  ((with_reducible refine expG_one 2 ?_ ?_); (· decide +kernel); try simp -implicitDefEqProofs only [go_sem, *])
  ((with_reducible refine enter_pu (ct) ?_ ?_ ?_); (· rfl); (· rfl); try simp -implicitDefEqProofs only [go_sem, *])
  ((with_reducible refine expG_one 3 ?_ ?_); (· decide +kernel); try simp -implicitDefEqProofs only [go_sem, *])
  refine enter_see1 cee (.cons _ _ _ _ (see_dV hn1 hn2 (hHx _)) (.cons _ _ _ _ (see_same rfl) .nil)) rfl rfl ?_
  simp -implicitDefEqProofs only [go_sem, ax, a0]
  (repeat' (first | ((with_reducible first | refine gon ?_ ?_ | refine gos ?_ ?_ | refine cdn ?_ ?_ | refine cds ?_ ?_ | refine gpn ?_ ?_ | refine gps ?_ ?_) <;> intro h <;> (try simp only [dt, df, gi, gt] at h) <;> try simp -implicitDefEqProofs only [go_sem, *]) | ((with_reducible refine And.intro ?_ ?_); (· first | omega | (simp only [List.length_take]; omega)); try simp -implicitDefEqProofs only [go_sem, *]) | first | ((with_reducible refine expG_one 4 ?_ ?_); (· decide +kernel); try simp -implicitDefEqProofs only [go_sem, *]) | ((with_reducible refine expG_end ?_ ?_); (· decide +kernel); try simp -implicitDefEqProofs only [go_sem, *])))
  refine enter_mid 2 (A := [some ⟨5, [eA e]⟩, some ⟨5, [eA g]⟩]) (X0 := dS 0 e) (X1 := dS 0 (markE 1 e)) (B := some ⟨5, [dV 2 n1 n2 e]⟩ :: [some ⟨5, [zA]⟩]) (args' := [dE 0 e, I 1]) (markEngine_c e hm) ?_ rfl dS_mark_len (by rw [dS_len]; exact cl_dS (by omega)) ?_ rfl ?_ ?_ ?_
  · rw [sh_dS, hA]
  · rw [← dS_mark_len (k := 1), dS_len]
    exact cl_dS (by omega)
  · rw [List.map_cons, sh_dE, Nat.add_zero, ← dV_eq hn1 hn2, List.map_cons, List.map_nil, sh_prim]
  · simp only [List.all_cons, List.all_nil, Bool.and_true]
    rw [dS_len]
    exact Bool.and_eq_true_iff.2 ⟨cl_dE (by omega), rfl⟩
  obtain ⟨A2, hA2⟩ : ∃ A2, [some ⟨5, [eA e]⟩, some ⟨5, [eA g]⟩] ++ shS 2 (dS 0 (markE 1 e)) = A2 := ⟨_, rfl⟩
  have hn' : A2.length = n := by
    have h1 : A = [some ⟨5, [eA e]⟩, some ⟨5, [eA g]⟩] ++ dS 2 e := hA
    rw [← hA2, ← hn, h1, List.length_append, List.length_append, shS_len, dS_mark_len, dS_len, dS_len]
  have a0' : ∀ T, getO (A2 ++ T) 0 = some ⟨5, [eA e]⟩ := fun T => by rw [← hA2]; rfl
  have a1' : ∀ T, getO (A2 ++ T) 1 = some ⟨5, [eA g]⟩ := fun T => by rw [← hA2]; rfl
  have ax' : ∀ (o : AObj) T, getO (A2 ++ some o :: T) n = some o := fun o T => by rw [← hn']; exact getO_app
  have k1 : ¬ (1 + (cntE e : Int) < 0) := by omega
  have k2 : ¬ (1 + (cntE g : Int) < 0) := by omega
  have k3 : ((1 + (cntE g : Int)) != (1 + (cntE g : Int))) = false := by simp
  have hh := heldEngine_fn g hg
  have bx' : ∀ (c : Option AObj) (o : AObj) T, getO (A2 ++ c :: some o :: T) (n + 1) = some o := fun c o T => getO_app2 (B := []) hn' rfl
  rw [hA2]
  clear hA2
  simp -implicitDefEqProofs only [go_sem, a0', a1', ax', bx', k1]
  refine enter_see1 ceg (.cons _ _ _ _ (seeG _) (.cons _ _ _ _ (see_same rfl) .nil)) rfl rfl ?_
  simp -implicitDefEqProofs only [go_sem, a0', a1', ax', bx', bnn]
  (repeat' (first | ((with_reducible first | refine gon ?_ ?_ | refine gos ?_ ?_ | refine cdn ?_ ?_ | refine cds ?_ ?_ | refine gpn ?_ ?_ | refine gps ?_ ?_) <;> intro h <;> (try simp only [dt, df, gi, gt] at h) <;> try simp -implicitDefEqProofs only [go_sem, *]) | ((with_reducible refine And.intro ?_ ?_); (· first | omega | (simp only [List.length_take]; omega)); try simp -implicitDefEqProofs only [go_sem, *]) | ((with_reducible refine enter_pu (markZ) ?_ ?_ ?_); (· rfl); (· rfl); try simp -implicitDefEqProofs only [go_sem, *])))
  have e1 : markE 1 g = g := by rw [hgz]; rfl
  have e2 : (1 + (cntE g : Int)) = 1 := by rw [hgz]; rfl
  rw [e1, e2] at hh
  refine enter_see1 hh (.cons _ _ _ _ (seeG _) (.cons _ _ _ _ (see_same rfl) .nil)) rfl rfl ?_
  simp -implicitDefEqProofs only [go_sem, a0', a1', ax', bx']
  (repeat' (first | ((with_reducible first | refine gon ?_ ?_ | refine gos ?_ ?_ | refine cdn ?_ ?_ | refine cds ?_ ?_ | refine gpn ?_ ?_ | refine gps ?_ ?_) <;> intro h <;> (try simp only [dt, df, gi, gt] at h) <;> try simp -implicitDefEqProofs only [go_sem, *]) | ((with_reducible refine And.intro ?_ ?_); (· first | omega | (simp only [List.length_take]; omega)); try simp -implicitDefEqProofs only [go_sem, *]) | fail))
  have cx2 : ∀ (c d : Option AObj) (o : AObj) T, getO (A2 ++ c :: d :: some o :: T) (n + (1 + 1)) = some o := fun c d o T => getO_app3 (B := []) hn' rfl
  have cy2 : ∀ (c d o x : Option AObj) T, (A2 ++ c :: d :: o :: T).set (n + (1 + 1)) x = A2 ++ c :: d :: x :: T := fun c d o x T => set_app3 (B := []) hn' rfl
  ((with_reducible refine enter_pu (ct) ?_ ?_ ?_); (· rfl); (· rfl); try simp -implicitDefEqProofs only [go_sem, *])
  ((with_reducible refine enter_pu (cI) ?_ ?_ ?_); (· rfl); (· rfl); try simp -implicitDefEqProofs only [go_sem, *])
  simp -implicitDefEqProofs only [go_sem, List.append_assoc, a0', a1', ax', bx', cx2, cy2, bnn]
  (repeat' (first | ((with_reducible first | refine gon ?_ ?_ | refine gos ?_ ?_ | refine cdn ?_ ?_ | refine cds ?_ ?_ | refine gpn ?_ ?_ | refine gps ?_ ?_) <;> intro h <;> (try simp only [dt, df, gi, gt] at h) <;> try simp -implicitDefEqProofs only [go_sem, *]) | ((with_reducible refine And.intro ?_ ?_); (· first | omega | (simp only [List.length_take]; omega)); try simp -implicitDefEqProofs only [go_sem, *]) | ((with_reducible refine enter_pu (ceg) ?_ ?_ ?_); (· rfl); (· rfl); try simp -implicitDefEqProofs only [go_sem, *])))
  refine enter_see1 hh (.cons _ _ _ _ (seeG _) (.cons _ _ _ _ (see_same rfl) .nil)) rfl rfl ?_
  simp -implicitDefEqProofs only [go_sem, true_and]
  (repeat' (first | ((with_reducible first | refine gon ?_ ?_ | refine gos ?_ ?_ | refine cdn ?_ ?_ | refine cds ?_ ?_ | refine gpn ?_ ?_ | refine gps ?_ ?_) <;> intro h <;> (try simp only [dt, df, gi, gt] at h) <;> try simp -implicitDefEqProofs only [go_sem, *]) | ((with_reducible refine And.intro ?_ ?_); (· first | omega | (simp only [List.length_take]; omega)); try simp -implicitDefEqProofs only [go_sem, *]) | fail))
  all_goals exact fin_pu rfl rfl
theorem FnExactChangeOwn_out (e : Eng) (tx : Int) (page : Int) (table : Int) (hs : e.small) (h0 : szE e 1048576 < 0) : Fn1 Tryz.prog 13 [eA e, I tx, I page, I table] (Bo true) := by
  have cz := szEngine_fn e 1048576 (by omega) hs
  refine fn1_of Tryz.func13 rfl rfl ?_
  simp -implicitDefEqProofs only [go_sem, Tryz.f13, h0]
  (repeat' (first | ((with_reducible first | refine gon ?_ ?_ | refine gos ?_ ?_ | refine cdn ?_ ?_ | refine cds ?_ ?_ | refine gpn ?_ ?_ | refine gps ?_ ?_) <;> intro h <;> (try simp only [dt, df, gi, gt] at h) <;> try simp -implicitDefEqProofs only [go_sem, *]) | ((with_reducible refine And.intro ?_ ?_); (· first | omega | (simp only [List.length_take]; omega)); try simp -implicitDefEqProofs only [go_sem, *]) | ((with_reducible refine enter_pu (cz) ?_ ?_ ?_); (· rfl); (· rfl); try simp -implicitDefEqProofs only [go_sem, *])))
  exact fin_pu rfl rfl
theorem ExactChangeOwn_law (e : Eng) (hs : e.small) (tx : Int) (page : Int) (table : Int) : Fn1 Tryz.prog 13 [eA e, I tx, I page, I table] (Bo true) := by
  by_cases h0 : szE e 1048576 < 0
  · exact FnExactChangeOwn_out e tx page table hs h0
  have cS := ChangeOwnS_fn e tx page table hs
  have cI := ChangeOwnI_fn e tx page table hs
  rcases hok : okE e with _ | _
  · have hf : ownD e tx page table = (zeroE, false) := by unfold ownD; rw [if_neg (by rw [hok]; decide)]
    rw [hf] at cS cI
    exact FnExactChangeOwn_no e zeroE false tx page table hs h0 rfl cS cI (ChangeOwnI_none e tx page table hok hs)
  · have hi := inv_of_ok hok
    have co := ChangeOwnI_own e tx page table hok hs
    have hf : ownD e tx page table = e.own tx page table := by unfold ownD; rw [if_pos hok]
    have hg : (e.own tx page table).1.mid := inv_mid (own_inv hi tx page table)
    rw [hf] at cS cI
    obtain ⟨⟨q, b⟩, hq⟩ : ∃ q, e.own tx page table = q := ⟨_, rfl⟩
    rw [hq] at cS cI co hg
    exact FnExactChangeOwn_ok e q b tx page table hs h0 hg cS cI co
end
end Go.Proofs.YtagjgjhkdihodaaGreat.Am
end
