/- Lemmas and walks: Kl. No conditions. -/
import Derived.Test.YtjdebcankncfaabGreatJ6
import Derived.Test.YtjdebcankncfaabGreatJ2
import Derived.Laws.Strings
section
set_option linter.unusedVariables false
set_option linter.unusedSimpArgs false
set_option maxRecDepth 100000
set_option maxHeartbeats 8000000
namespace Go.Proofs.YtjdebcankncfaabGreat.Am
open Go Go.RowKit Go.Proofs
attribute [local go_sem_proc] Nat.reduceAdd Nat.reduceSub Nat.reduceMul Nat.reduceLT Nat.reduceLeDiff Nat.reduceEqDiff Int.reduceBEq Int.reduceBNe Int.reduceNeg Int.reduceSub Int.reduceLE Int.reduceLT
attribute [local go_sem_proc ↓] reduceIte
attribute [local congr] opsP_congr codeP_congr AWP_congr afterR_congr preP_congr afterPre_congr gPre_congr gOps_congr condP_congr stepE_congr
attribute [local go_sem] ty_int ty_bool ty_str ty_u8 ty_ints ty_bytes ty_page ty_pages ty_lpage ty_lpages ty_rec ty_recs ty_lrec ty_lrecs ty_eng ty_leng
attribute [local go_sem] true_and and_true beq_true' beq_false' toNat_cast Int.natCast_nonneg Bool.not_not Bool.not_true Bool.not_false decide_true decide_false Bool.or_false Bool.false_or Bool.or_true Bool.true_or Bool.and_false Bool.false_and Nat.zero_add Int.toNat_of_nonneg wrap_succ wrap_m1 wrap_nat succ_m1 cast0 succ_pos' succ_ne' succ_bne' ge_iff_le gt_iff_lt if_true if_false
theorem lapp_cons {α : Type} {a : α} {xs bs : List α} : List.append (a :: xs) bs = a :: List.append xs bs := rfl
theorem lapp_nil {α : Type} {bs : List α} : List.append [] bs = bs := rfl
attribute [local go_sem] slt_r slt_I slt_p ty_rd ty_ev ty_evs lapp_cons lapp_nil
theorem laid_eq (e : Eng) (tx : Int) (k : Nat) (vals : List Int) : e.laid tx k vals = ⟨e.disk, e.mem.set k ⟨((e.log.length + 1 : Nat) : Int), (at' e.mem (k : Int)).owner, vals⟩, e.alog (ldR tx k), e.safe, e.down⟩ := by
  unfold Eng.laid
  rw [alog_len]
  rfl
theorem Load_law (l : List Int) (hl : l.length < 4611686018427387904) (hb : Byt l) : Fn1 Tryz.prog 4 [bts l] (Bo true) := by
  refine fn1_of Tryz.func4 rfl rfl ?_
  by_cases hlen : (1048576 : Int) < (l.length : Int)
  · simp -implicitDefEqProofs only [go_sem, Tryz.f4, hlen]
    exact fin_pu rfl rfl
  simp -implicitDefEqProofs only [go_sem, Tryz.f4, hlen]
  (repeat' (first | ((with_reducible first | refine gon ?_ ?_ | refine gos ?_ ?_ | refine cdn ?_ ?_ | refine cds ?_ ?_ | refine gpn ?_ ?_ | refine gps ?_ ?_) <;> intro h <;> (try simp only [dt, df, gi, gt] at h) <;> try simp -implicitDefEqProofs only [go_sem, *]) | ((with_reducible refine And.intro ?_ ?_); (· first | omega | (simp only [List.length_take]; omega)); try simp -implicitDefEqProofs only [go_sem, *]) | ((with_reducible refine enter_at ([] : List Nat) (M2 := []) (DrawChangeLoad_c l hl hb) (by decide) ?_ ?_ rfl ?_); (· repeat (first | exact Keeps.nil | (refine Keeps.cons _ _ _ _ _ rfl rfl ?_ ?_; (· first | exact a2_p _ _ | exact a2_1 rfl | exact a2_I _ _)))); (· repeat (first | exact All2.nil | (refine All2.cons _ _ _ _ ?_ ?_; (· first | exact rnT_eX rfl rfl | exact rnT_prim | exact rnT_sl | exact rnT_ref rfl | exact rnT_agg rfl | exact rnT_own rfl | exact rnT_eX5 rfl rfl)))); rintro ⟨e, tx, page, vals⟩ ⟨hdr, hv3⟩; try simp -implicitDefEqProofs only [go_sem, *])))
  simp only at hdr hv3
  have hsm := dr_small hdr
  have c1 := ChangeLoadI_fn e tx page vals hsm (by omega)
  have c2 := ChangeLoadS_fn e tx page vals hsm (by omega)
  unfold loadD at c1 c2
  rcases hok : okE e with _ | _
  · rw [hok] at c1 c2
    rw [if_neg (by simp)] at c1 c2
    have c3 := ltSame zeroE zeroE_small
    clear hok
    (repeat' (first | ((with_reducible first | refine gon ?_ ?_ | refine gos ?_ ?_ | refine cdn ?_ ?_ | refine cds ?_ ?_ | refine gpn ?_ ?_ | refine gps ?_ ?_) <;> intro h <;> (try simp only [dt, df, gi, gt] at h) <;> try simp -implicitDefEqProofs only [go_sem, *]) | ((with_reducible refine And.intro ?_ ?_); (· first | omega | (simp only [List.length_take]; omega)); try simp -implicitDefEqProofs only [go_sem, *]) | first | ((with_reducible refine enter_pu (c1) ?_ ?_ ?_); (· rfl); (· rfl); try simp -implicitDefEqProofs only [go_sem, *]) | ((with_reducible refine enter_pu (c2) ?_ ?_ ?_); (· rfl); (· rfl); try simp -implicitDefEqProofs only [go_sem, *]) | ((with_reducible refine enter_pu (c3) ?_ ?_ ?_); (· rfl); (· rfl); try simp -implicitDefEqProofs only [go_sem, *]) | fail))
    all_goals exact fin_pu rfl rfl
  rw [if_pos hok] at c1 c2
  have hi := inv_of_ok hok
  by_cases hyes : e.loadB tx page vals = true ∧ e.fits (ldR tx page) = true
  rotate_left
  · have e1 : e.load tx page vals = (e, false) := by
      unfold Eng.load
      by_cases h1 : e.loadB tx page vals = true
      · rw [if_pos h1, if_neg (fun h2 => hyes ⟨h1, h2⟩)]
      · rw [if_neg h1]
    rw [e1] at c1 c2
    have c3 := ltSame e hsm
    simp only at c1 c2
    clear hok hyes hi e1
    (repeat' (first | ((with_reducible first | refine gon ?_ ?_ | refine gos ?_ ?_ | refine cdn ?_ ?_ | refine cds ?_ ?_ | refine gpn ?_ ?_ | refine gps ?_ ?_) <;> intro h <;> (try simp only [dt, df, gi, gt] at h) <;> try simp -implicitDefEqProofs only [go_sem, *]) | ((with_reducible refine And.intro ?_ ?_); (· first | omega | (simp only [List.length_take]; omega)); try simp -implicitDefEqProofs only [go_sem, *]) | first | ((with_reducible refine enter_pu (c1) ?_ ?_ ?_); (· rfl); (· rfl); try simp -implicitDefEqProofs only [go_sem, *]) | ((with_reducible refine enter_pu (c2) ?_ ?_ ?_); (· rfl); (· rfl); try simp -implicitDefEqProofs only [go_sem, *]) | ((with_reducible refine enter_pu (c3) ?_ ?_ ?_); (· rfl); (· rfl); try simp -implicitDefEqProofs only [go_sem, *]) | fail))
    all_goals exact fin_pu rfl rfl
  obtain ⟨hld, hf⟩ := hyes
  have hp : 0 ≤ page ∧ page ≤ 4 := by
    have h2 := hld
    unfold Eng.loadB at h2
    simp only [Bool.and_eq_true] at h2
    exact (mayB_iff h2.1.1.1.1.1).2.2
  obtain ⟨k, hk, rfl⟩ := page_nat hp
  have e1 : e.load tx k vals = (e.laid tx k vals, true) := by unfold Eng.load; rw [if_pos hld, if_pos hf]
  have hi2 := load_inv hi tx k vals
  rw [e1] at c1 c2 hi2
  have hsm2 := small_of_inv hi2
  have c3 := ltSame _ hsm2
  have c5 := okI _ hsm2
  rw [load_ok hok hk hld hf] at c5
  have c6 := LogLastI_fn e.log tx hi.log
  have c7 := ltIntsSame vals (by omega)
  have c9 := ltPagesSame e.disk hsm.disk hsm.dv
  have hm5 := hi.mem.len
  have hal := alog_len e (ldR tx k)
  have hrc : at' (e.alog (ldR tx k)) (e.log.length : Int) = e.rc (ldR tx k) := by simp [Eng.alog, at', List.getD]
  rw [laid_eq] at c1 c2 c3 c5 hsm2
  obtain ⟨L, hL⟩ : ∃ L, e.alog (ldR tx k) = L := ⟨_, rfl⟩
  obtain ⟨M, hM⟩ : ∃ M, e.mem.set k ⟨((e.log.length + 1 : Nat) : Int), (at' e.mem (k : Int)).owner, vals⟩ = M := ⟨_, rfl⟩
  have hMk : at' M (k : Int) = ⟨((e.log.length + 1 : Nat) : Int), (at' e.mem (k : Int)).owner, vals⟩ := by rw [← hM, at_set _ _ _ _ (by omega), if_pos rfl]
  have hMl : M.length = 5 := by rw [← hM, List.length_set]; exact hm5
  rw [hL] at c1 c2 c3 c5 hsm2 hal hrc
  rw [hM] at c1 c2 c3 c5 hsm2
  have c8 := ltBut_fn M e.mem (k : Int) (by omega) (by omega) hsm2.mv (fun j hj hne => by rw [← hM, at_set _ _ _ _ (by omega), if_neg (by omega)])
  have hlen2 := hi.len
  simp only at c1 c2
  have hkM : k < M.length := by omega
  have hkM' : (k : Int) < (M.length : Int) := by omega
  have hkm : k < e.mem.length := by omega
  have hkm' : (k : Int) < (e.mem.length : Int) := by omega
  have hLl : e.log.length < L.length := by omega
  have hLl' : (e.log.length : Int) < (L.length : Int) := by omega
  have hwn : IntKind.i64.wrap ((e.log.length : Int) + 1) = ((e.log.length + 1 : Nat) : Int) := by rw [wrap_ok (by omega) (by omega)]; omega
  have hbe : ∀ a : Int, (a == a) = true := fun a => by simp
  have hrcd : e.rc (ldR tx k) = ⟨3, tx, k, 0, 0, 0, ((lastN e.log tx : Nat) : Int), 0⟩ := rfl
  rw [hrcd] at hrc
  clear hok hld hf hi hi2 e1 hL hM hsm2 hrcd hlen2 hm5 hdr hMl
  (repeat' (first | ((with_reducible first | refine gon ?_ ?_ | refine gos ?_ ?_ | refine cdn ?_ ?_ | refine cds ?_ ?_ | refine gpn ?_ ?_ | refine gps ?_ ?_) <;> intro h <;> (try simp only [dt, df, gi, gt] at h) <;> try simp -implicitDefEqProofs only [go_sem, *]) | ((with_reducible refine And.intro ?_ ?_); (· first | omega | (simp only [List.length_take]; omega)); try simp -implicitDefEqProofs only [go_sem, *]) | first | ((with_reducible refine enter_pu (c1) ?_ ?_ ?_); (· rfl); (· rfl); try simp -implicitDefEqProofs only [go_sem, *]) | ((with_reducible refine enter_pu (c2) ?_ ?_ ?_); (· rfl); (· rfl); try simp -implicitDefEqProofs only [go_sem, *]) | ((with_reducible refine enter_pu (c3) ?_ ?_ ?_); (· rfl); (· rfl); try simp -implicitDefEqProofs only [go_sem, *]) | ((with_reducible refine enter_pu (c6) ?_ ?_ ?_); (· rfl); (· rfl); try simp -implicitDefEqProofs only [go_sem, *]) | fail))
  (repeat' (first | ((with_reducible first | refine gon ?_ ?_ | refine gos ?_ ?_ | refine cdn ?_ ?_ | refine cds ?_ ?_ | refine gpn ?_ ?_ | refine gps ?_ ?_) <;> intro h <;> (try simp only [dt, df, gi, gt] at h) <;> try simp -implicitDefEqProofs only [go_sem, *]) | ((with_reducible refine And.intro ?_ ?_); (· first | omega | (simp only [List.length_take]; omega)); try simp -implicitDefEqProofs only [go_sem, *]) | first | ((with_reducible refine cp_draw (id := 10) 71 mixed ?_ ?_ ?_); (· decide +kernel); (· first | (simp only [List.all_cons, List.all_nil, List.length_cons, List.length_nil, Nat.reduceAdd, Nat.reduceLT, decide_true, Bool.and_true, Bool.and_self]; done) | rfl); try simp -implicitDefEqProofs only [go_sem, *]) | ((with_reducible refine pre_enter _ (det_pu (c5) ?_ ?_) ?_ ?_); (· rfl); (· rfl); (· rfl); try simp -implicitDefEqProofs only [go_sem, *]) | ((with_reducible refine pre_enter _ (det_pu (c7) ?_ ?_) ?_ ?_); (· rfl); (· rfl); (· rfl); try simp -implicitDefEqProofs only [go_sem, *]) | ((with_reducible refine pre_enter _ (det_pu (c8) ?_ ?_) ?_ ?_); (· rfl); (· rfl); (· rfl); try simp -implicitDefEqProofs only [go_sem, *]) | ((with_reducible refine pre_enter _ (det_pu (c9) ?_ ?_) ?_ ?_); (· rfl); (· rfl); (· rfl); try simp -implicitDefEqProofs only [go_sem, *]) | fail))
  all_goals exact fin_pu rfl rfl
end Go.Proofs.YtjdebcankncfaabGreat.Am
end
