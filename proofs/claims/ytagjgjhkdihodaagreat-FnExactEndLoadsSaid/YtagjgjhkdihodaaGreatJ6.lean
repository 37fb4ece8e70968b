/- Lemmas and walks: Xj Xl Xm Xn Xo Xp Xh Xq Xr Xs. No conditions. -/
import Derived.Test.YtagjgjhkdihodaaGreatJ5
import Derived.Test.YtagjgjhkdihodaaGreatJ2
import Derived.Laws.Strings
section
set_option linter.unusedVariables false
set_option linter.unusedSimpArgs false
set_option maxRecDepth 100000
set_option maxHeartbeats 8000000
namespace Go.Proofs.YtagjgjhkdihodaaGreat.Am
open Go Go.RowKit Go.Proofs
attribute [local go_sem_proc] Nat.reduceAdd Nat.reduceSub Nat.reduceMul Nat.reduceLT Nat.reduceLeDiff Nat.reduceEqDiff Int.reduceBEq Int.reduceBNe Int.reduceNeg Int.reduceSub Int.reduceLE Int.reduceLT
attribute [local go_sem_proc ↓] reduceIte
attribute [local congr] opsP_congr codeP_congr AWP_congr afterR_congr preP_congr afterPre_congr gPre_congr gOps_congr condP_congr stepE_congr
attribute [local go_sem] ty_int ty_bool ty_str ty_u8 ty_ints ty_bytes ty_page ty_pages ty_lpage ty_lpages ty_rec ty_recs ty_lrec ty_lrecs ty_eng ty_leng
attribute [local go_sem] true_and and_true beq_true' beq_false' toNat_cast Int.natCast_nonneg Bool.not_not Bool.not_true Bool.not_false decide_true decide_false Bool.or_false Bool.false_or Bool.or_true Bool.true_or Bool.and_false Bool.false_and Nat.zero_add Int.toNat_of_nonneg wrap_succ wrap_m1 wrap_nat succ_m1 cast0 succ_pos' succ_ne' succ_bne' ge_iff_le gt_iff_lt if_true if_false
attribute [local go_sem] slt_r slt_I slt_p
theorem sc_dps {i : Nat} : ∀ (b : Nat) (ps : List Pg), (i < b ∨ b + ps.length ≤ i) → ((dps b ps).map dA).map (AV.sc1 [i]) = (dps b ps).map dA
  | _, [], _ => rfl
  | b, p :: ps, h => by
    simp only [List.length_cons] at h
    have ih := sc_dps (i := i) (b + 1) ps (by omega)
    have hne : ¬ b = i := by omega
    rw [dps, List.map_cons, List.map_cons, ih]
    simp [AV.sc1, AV.sc0, hne]
theorem cl_s13 {m b : Nat} {e : Eng} (hd : e.disk.length = 5) (hm : e.mem.length = 5) (h : b + 13 ≤ m) : (s13 b e).all (clO m) = true := by
  rw [← dS_13 hd hm]
  exact cl_dS (by omega)
theorem slt_sD {e : Eng} (hd : e.disk.length = 5) (hm : e.mem.length = 5) : sltB (sD e).length (sD e) = true := by
  refine slt_cl ?_
  unfold sD
  rw [List.all_append, cl_s13 hd hm (by simp [s13])]
  rfl
/-- The end of a function over an engine behind a pointer: what it made besides is dropped. -/
theorem fin_sD {e : Eng} {T : Store} {mv : List Nat} {r : AV} {Q : AV → Store → List Nat → Prop} (hd : e.disk.length = 5) (hm : e.mem.length = 5) (hr : r.ltB 14 = true) (h : Q r (sD e) mv) : Fin 14 r (sD e ++ T) mv Q :=
  fin_trunc (Nat.le_refl 14) hr (slt_sD hd hm) h
theorem addD (e : Eng) (r : Rc) (hd : Sz e.disk) (hm : Sz e.mem) (hl : e.log.length ≤ 1000) : AFn1 Tryz.prog 100 [.ref 13 5 0 0, rA r] (sD e) (I ((e.log.length + 1 : Nat) : Int)) (sD ⟨e.disk, e.mem, e.alog r, e.safe, e.down⟩) [12] := by
  have hd5 := hd.len
  have hm5 := hm.len
  have hs1 := sc_dps (i := 12) 1 e.disk (by omega)
  have hs2 := sc_dps (i := 12) 7 e.mem (by omega)
  have c1 := lastC e.log r.tx (by omega)
  refine afn1_of Tryz.func100 rfl rfl ?_
  unfold sD s13
  simp only [List.cons_append, List.nil_append, Nat.zero_add]
  simp -implicitDefEqProofs only [go_sem, Tryz.f100]
  refine cp_drawG (id := 1) 9 (fun S => getO S 13 = some ⟨5, [dW e]⟩) mixed rfl ?_
  ((refine expG_get 0 (.ref 13 5 0 0) rfl ?_ ?_ (by repeat (first | rfl | refine And.intro rfl ?_)) ?_ ?_); (· decide +kernel); (· decide +kernel); (· (intro S hS0; simp -implicitDefEqProofs only [go_sem, hS0, *])); try simp -implicitDefEqProofs only [go_sem, List.set_cons_succ, List.set_cons_zero])
  ((refine expG_get 1 (.ref 13 5 0 0) rfl ?_ ?_ (by repeat (first | rfl | refine And.intro rfl ?_)) ?_ ?_); (· decide +kernel); (· decide +kernel); (· (intro S hS0; simp -implicitDefEqProofs only [go_sem, hS0, *])); try simp -implicitDefEqProofs only [go_sem, List.set_cons_succ, List.set_cons_zero])
  ((refine expG_get 2 (.ref 13 5 0 2) rfl ?_ ?_ (by repeat (first | rfl | refine And.intro rfl ?_)) ?_ ?_); (· decide +kernel); (· decide +kernel); (· (intro S hS0; simp -implicitDefEqProofs only [go_sem, hS0, *])); try simp -implicitDefEqProofs only [go_sem, List.set_cons_succ, List.set_cons_zero])
  ((refine expG_get 3 (.own 12 8 0 e.log.length) rfl ?_ ?_ (by repeat (first | rfl | refine And.intro rfl ?_)) ?_ ?_); (· decide +kernel); (· decide +kernel); (· (intro S hS0; simp -implicitDefEqProofs only [go_sem, hS0, *])); try simp -implicitDefEqProofs only [go_sem, List.set_cons_succ, List.set_cons_zero])
  (repeat' (first | ((with_reducible first | refine gon ?_ ?_ | refine gos ?_ ?_ | refine cdn ?_ ?_ | refine cds ?_ ?_ | refine gpn ?_ ?_ | refine gps ?_ ?_) <;> intro h <;> (try simp only [dt, df, gi, gt] at h) <;> try simp -implicitDefEqProofs only [go_sem, *]) | ((with_reducible refine And.intro ?_ ?_); (· first | omega | (simp only [List.length_take]; omega)); try simp -implicitDefEqProofs only [go_sem, *]) | first | ((with_reducible refine expG_one 4 ?_ ?_); (· decide +kernel); try simp -implicitDefEqProofs only [go_sem, *]) | ((with_reducible refine expG_one 5 ?_ ?_); (· decide +kernel); try simp -implicitDefEqProofs only [go_sem, *]) | ((with_reducible refine expG_one 6 ?_ ?_); (· decide +kernel); try simp -implicitDefEqProofs only [go_sem, *])))
  refine enter_see1 c1 (.cons _ _ _ _ (see_recs rfl rfl) (.cons _ _ _ _ (see_same rfl) .nil)) rfl rfl ?_
  simp -implicitDefEqProofs only [go_sem, true_and]
  (repeat' (first | ((with_reducible first | refine gon ?_ ?_ | refine gos ?_ ?_ | refine cdn ?_ ?_ | refine cds ?_ ?_ | refine gpn ?_ ?_ | refine gps ?_ ?_) <;> intro h <;> (try simp only [dt, df, gi, gt] at h) <;> try simp -implicitDefEqProofs only [go_sem, *]) | ((with_reducible refine And.intro ?_ ?_); (· first | omega | (simp only [List.length_take]; omega)); try simp -implicitDefEqProofs only [go_sem, *]) | first | ((with_reducible refine expG_one 7 ?_ ?_); (· decide +kernel); try simp -implicitDefEqProofs only [go_sem, *]) | ((with_reducible refine expG_one 8 ?_ ?_); (· decide +kernel); try simp -implicitDefEqProofs only [go_sem, *]) | ((with_reducible refine expG_end ?_ ?_); (· decide +kernel); try simp -implicitDefEqProofs only [go_sem, *])))
  refine cp_drawW (id := 2) 11 mixed rfl ?_
  ((refine expW_move 0 rfl ?_ ?_ ?_ ?_); (· decide +kernel); (· decide +kernel); (· decide +kernel); simp -implicitDefEqProofs only [go_sem, *])
  ((refine expW_move 1 rfl ?_ ?_ ?_ ?_); (· decide +kernel); (· decide +kernel); (· decide +kernel); simp -implicitDefEqProofs only [go_sem, *])
  refine expW_P ?_
  (repeat' (first | ((with_reducible first | refine gon ?_ ?_ | refine gos ?_ ?_ | refine cdn ?_ ?_ | refine cds ?_ ?_ | refine gpn ?_ ?_ | refine gps ?_ ?_) <;> intro h <;> (try simp only [dt, df, gi, gt] at h) <;> try simp -implicitDefEqProofs only [go_sem, *]) | ((with_reducible refine And.intro ?_ ?_); (· first | omega | (simp only [List.length_take]; omega)); try simp -implicitDefEqProofs only [go_sem, *]) | first | ((with_reducible refine exp_end ?_ ?_); (· decide +kernel); try simp -implicitDefEqProofs only [go_sem, *]) | ((with_reducible refine exp_two 2 5 ?_ ?_ ?_); (· decide +kernel); all_goals (try simp -implicitDefEqProofs only [go_sem, *])) | ((with_reducible refine exp_two 3 5 ?_ ?_ ?_); (· decide +kernel); all_goals (try simp -implicitDefEqProofs only [go_sem, *])) | ((with_reducible refine exp_two 4 5 ?_ ?_ ?_); (· decide +kernel); all_goals (try simp -implicitDefEqProofs only [go_sem, *])) | ((with_reducible refine exp_two 2 6 ?_ ?_ ?_); (· decide +kernel); all_goals (try simp -implicitDefEqProofs only [go_sem, *])) | ((with_reducible refine exp_two 3 6 ?_ ?_ ?_); (· decide +kernel); all_goals (try simp -implicitDefEqProofs only [go_sem, *])) | ((with_reducible refine exp_two 4 6 ?_ ?_ ?_); (· decide +kernel); all_goals (try simp -implicitDefEqProofs only [go_sem, *])) | ((with_reducible refine exp_one 2 ?_ ?_); (· decide +kernel); try simp -implicitDefEqProofs only [go_sem, *]) | ((with_reducible refine exp_one 3 ?_ ?_); (· decide +kernel); try simp -implicitDefEqProofs only [go_sem, *]) | ((with_reducible refine exp_one 4 ?_ ?_); (· decide +kernel); try simp -implicitDefEqProofs only [go_sem, *]) | ((with_reducible refine exp_one 5 ?_ ?_); (· decide +kernel); try simp -implicitDefEqProofs only [go_sem, *]) | ((with_reducible refine exp_one 6 ?_ ?_); (· decide +kernel); try simp -implicitDefEqProofs only [go_sem, *]) | ((with_reducible refine exp_one 7 ?_ ?_); (· decide +kernel); try simp -implicitDefEqProofs only [go_sem, *]) | ((with_reducible refine exp_one 8 ?_ ?_); (· decide +kernel); try simp -implicitDefEqProofs only [go_sem, *]) | ((with_reducible refine exp_one 9 ?_ ?_); (· decide +kernel); try simp -implicitDefEqProofs only [go_sem, *]) | ((with_reducible refine exp_one 10 ?_ ?_); (· decide +kernel); try simp -implicitDefEqProofs only [go_sem, *])))
  all_goals
    rw [show e.log.length + 1 = (e.alog r).length from (alog_len e r).symm]
    exact fin_sD (e := ⟨e.disk, e.mem, e.alog r, e.safe, e.down⟩) (T := [_, _]) hd5 hm5 rfl ⟨rfl, rfl, rfl⟩
end Go.Proofs.YtagjgjhkdihodaaGreat.Am
end
section
set_option linter.unusedVariables false
set_option linter.unusedSimpArgs false
set_option maxRecDepth 100000
set_option maxHeartbeats 8000000
namespace Go.Proofs.YtagjgjhkdihodaaGreat.Am
open Go Go.RowKit Go.Proofs
attribute [local go_sem_proc] Nat.reduceAdd Nat.reduceSub Nat.reduceMul Nat.reduceLT Nat.reduceLeDiff Nat.reduceEqDiff Int.reduceBEq Int.reduceBNe Int.reduceNeg Int.reduceSub Int.reduceLE Int.reduceLT
attribute [local go_sem_proc ↓] reduceIte
attribute [local congr] opsP_congr codeP_congr AWP_congr afterR_congr preP_congr afterPre_congr gPre_congr gOps_congr condP_congr stepE_congr
attribute [local go_sem] ty_int ty_bool ty_str ty_u8 ty_ints ty_bytes ty_page ty_pages ty_lpage ty_lpages ty_rec ty_recs ty_lrec ty_lrecs ty_eng ty_leng
attribute [local go_sem] true_and and_true beq_true' beq_false' toNat_cast Int.natCast_nonneg Bool.not_not Bool.not_true Bool.not_false decide_true decide_false Bool.or_false Bool.false_or Bool.or_true Bool.true_or Bool.and_false Bool.false_and Nat.zero_add Int.toNat_of_nonneg wrap_succ wrap_m1 wrap_nat succ_m1 cast0 succ_pos' succ_ne' succ_bne' ge_iff_le gt_iff_lt if_true if_false
attribute [local go_sem] slt_r slt_I slt_p
theorem pagesOf_own (hl : LastC) (l : List Rc) (tx : Int) (h : FuncId) (pred : Rc → Bool) (hw : Wf l) (hh : ∀ r, Fn1 Tryz.prog h [rA r] (Bo (pred r))) : Fn Tryz.prog 83 [recs l, I tx, .clo h []] (fun r S => r = .own 0 1 0 (pgsOf l tx pred).length ∧ ∃ z : List Int, S = [some ⟨1, (pgsOf l tx pred ++ z).map I⟩]) := by
  have hlen := hw.len
  have hcl := chain_len l (lastN l tx)
  have hll := lastN_le l tx
  have hch := chain_fn hl l tx hw
  obtain ⟨c, hc⟩ : ∃ c, chain l (lastN l tx) = c := ⟨_, rfl⟩
  rw [hc] at hcl hch
  have hcm : ∀ n ∈ c, ∃ b, n = b + 1 ∧ b < l.length := fun n hn => chain_mem hw _ hll (by rw [hc]; exact hn)
  have hout : pgsOf l tx pred = once (sorted (pgsRaw l pred c)) := by rw [pgsOf, hc]
  have hcb : c.length < 4611686018427387904 := by omega
  rw [hout]
  clear hout hc
  refine fn_of Tryz.func83 rfl rfl ?_
  simp -implicitDefEqProofs only [go_sem, Tryz.f83]
  (repeat' (first | ((with_reducible first | refine gon ?_ ?_ | refine gos ?_ ?_ | refine cdn ?_ ?_ | refine cds ?_ ?_ | refine gpn ?_ ?_ | refine gps ?_ ?_) <;> intro h <;> (try simp only [dt, df, gi, gt] at h) <;> try simp -implicitDefEqProofs only [go_sem, *]) | ((with_reducible refine And.intro ?_ ?_); (· first | omega | (simp only [List.length_take]; omega)); try simp -implicitDefEqProofs only [go_sem, *]) | ((with_reducible refine enter_pu (hch) ?_ ?_ ?_); (· rfl); (· rfl); try simp -implicitDefEqProofs only [go_sem, *])))
  refine cp_loop (fun i : Nat => ⟨(recs l :: I tx :: .clo h [] :: .any :: .any :: .any :: nilS :: .own 0 1 0 (pgsRaw l pred (c.take i)).length :: .any :: .any :: .any :: .any :: .any :: ints (c.map fun n : Nat => (n : Int)) :: I (c.length : Int) :: I (i : Int) :: .any :: .any :: .any :: .any :: .any :: .any :: .any :: .any :: .any :: .any :: .any :: .any :: .any :: .any :: .any :: .any :: .any :: .any :: .any :: .any :: .any :: .any :: []), [some ⟨1, (pgsRaw l pred (c.take i)).map I⟩], [0]⟩) (fun i => i ≤ c.length) (fun i => c.length - i) 0 ?_ ?_ ?_
  · simp
  · simp only [List.take_zero, pgsRaw_nil]
    refine WkN.trans (wk_nil 7 1 (by omega) rfl) (WkN.trans (wk_tm ?_) (wk_mv (by simp))); simp only [List.set_cons_succ, List.set_cons_zero, List.length_nil, List.length_cons]; repeat (first | exact WL.nil | (with_reducible refine WL.any _ _ _ ?_) | (with_reducible refine WL.same _ _ _ ?_) | (refine WL.eq _ _ _ _ rfl ?_))
  · rintro i hi
    have hb : i < 4611686018427387904 := by omega
    by_cases hil : i < c.length
    · have hil' : (i : Int) < (c.length : Int) := by omega
      obtain ⟨b, hn, hbl⟩ := hcm (at' c (i : Int)) (at_mem c i hil)
      have hat : at' (c.map fun n : Nat => (n : Int)) (i : Int) = ((b + 1 : Nat) : Int) := by rw [at_mapN c i hil, hn]
      have hb3 : b < 4611686018427387904 := by omega
      have htk := take_at c i hil
      have hrl := pgsRaw_len l pred (c.take i)
      rw [List.length_take] at hrl
      have hhr := hh (at' l (b : Int))
      rcases hp : pred (at' l (b : Int)) with _ | _
      · have e : pgsRaw l pred (c.take (i + 1)) = pgsRaw l pred (c.take i) := by
          rw [← htk, pgsRaw_app, hn]
          simp [pgsRaw, hp]
        rw [hp] at hhr
        clear hn htk
        simp -implicitDefEqProofs only [go_sem, hil', hb, hat, hb3]
        (repeat' (first | ((with_reducible first | refine gon ?_ ?_ | refine gos ?_ ?_ | refine cdn ?_ ?_ | refine cds ?_ ?_ | refine gpn ?_ ?_ | refine gps ?_ ?_) <;> intro h <;> (try simp only [dt, df, gi, gt] at h) <;> try simp -implicitDefEqProofs only [go_sem, *]) | ((with_reducible refine And.intro ?_ ?_); (· first | omega | (simp only [List.length_take]; omega)); try simp -implicitDefEqProofs only [go_sem, *]) | ((with_reducible refine enter_pu (hhr) ?_ ?_ ?_); (· rfl); (· rfl); try simp -implicitDefEqProofs only [go_sem, *])))
        refine ⟨i + 1, by omega, by omega, ?_⟩
        rw [e]
        refine WkN.trans (wk_tm ?_) (wk_trunc (S := [some ⟨1, _⟩]) (Nat.le_refl _) rfl (by first | rfl | (simp only [sltB, List.all_cons, List.all_nil, slt_p, slt_I, slt_r, Bool.and_true]; done) | (simp only [sltB, List.all_cons, List.all_nil, slt_p, slt_I, slt_r, Bool.and_true]; rfl))); repeat (first | exact WL.nil | (with_reducible refine WL.any _ _ _ ?_) | (with_reducible refine WL.same _ _ _ ?_) | (refine WL.eq _ _ _ _ rfl ?_))
      · have e : pgsRaw l pred (c.take (i + 1)) = pgsRaw l pred (c.take i) ++ [(at' l (b : Int)).page] := by
          rw [← htk, pgsRaw_app, hn]
          simp [pgsRaw, hp]
        rw [hp] at hhr
        clear hn htk
        simp -implicitDefEqProofs only [go_sem, hil', hb, hat, hb3]
        (repeat' (first | ((with_reducible first | refine gon ?_ ?_ | refine gos ?_ ?_ | refine cdn ?_ ?_ | refine cds ?_ ?_ | refine gpn ?_ ?_ | refine gps ?_ ?_) <;> intro h <;> (try simp only [dt, df, gi, gt] at h) <;> try simp -implicitDefEqProofs only [go_sem, *]) | ((with_reducible refine And.intro ?_ ?_); (· first | omega | (simp only [List.length_take]; omega)); try simp -implicitDefEqProofs only [go_sem, *]) | ((with_reducible refine enter_pu (hhr) ?_ ?_ ?_); (· rfl); (· rfl); try simp -implicitDefEqProofs only [go_sem, *])))
        refine ⟨i + 1, by omega, by omega, ?_⟩
        rw [e]
        simp only [List.length_append, List.length_cons, List.length_nil]
        refine WkN.trans (WkN.trans (wk_tm ?_) (wk_trunc (S := [some ⟨1, _⟩]) (Nat.le_refl _) rfl (by first | rfl | (simp only [sltB, List.all_cons, List.all_nil, slt_p, slt_I, slt_r, Bool.and_true]; done) | (simp only [sltB, List.all_cons, List.all_nil, slt_p, slt_I, slt_r, Bool.and_true]; rfl)))) (wk_mv (by simp)); repeat (first | exact WL.nil | (with_reducible refine WL.any _ _ _ ?_) | (with_reducible refine WL.same _ _ _ ?_) | (refine WL.eq _ _ _ _ rfl ?_))
    · have hil' : ¬ (i : Int) < (c.length : Int) := by omega
      obtain rfl : i = c.length := by omega
      rw [List.take_length]
      have hrl := pgsRaw_len l pred c
      have hso := Sort_own (pgsRaw l pred c) (by omega)
      have hco := Compact_own (sorted (pgsRaw l pred c)) (by rw [sorted_len]; omega) (once_len _) once_pos
      rw [sorted_len] at hco
      simp -implicitDefEqProofs only [go_sem, hil']
      (repeat' (first | ((with_reducible first | refine gon ?_ ?_ | refine gos ?_ ?_ | refine cdn ?_ ?_ | refine cds ?_ ?_ | refine gpn ?_ ?_ | refine gps ?_ ?_) <;> intro h <;> (try simp only [dt, df, gi, gt] at h) <;> try simp -implicitDefEqProofs only [go_sem, *]) | ((with_reducible refine And.intro ?_ ?_); (· first | omega | (simp only [List.length_take]; omega)); try simp -implicitDefEqProofs only [go_sem, *]) | fail))
      refine enter_keep hso ?_
      rintro r S' ⟨rfl, rfl⟩
      simp -implicitDefEqProofs only [go_sem, true_and]
      refine enter_keep hco ?_
      rintro r S' ⟨rfl, rfl⟩
      simp -implicitDefEqProofs only [go_sem, true_and]
      refine enter_keep (Clip_own _ _ ?_) ?_
      · have := once_len (sorted (pgsRaw l pred c))
        rw [sorted_len] at this
        omega
      rintro r S' ⟨rfl, rfl⟩
      simp -implicitDefEqProofs only [go_sem, true_and]
      exact fin_keep [0] (by simp) rfl (keep1 rfl (a2_I _ _)) (rt_own _ rfl) ⟨rfl, _, rfl⟩
theorem loads_own (l : List Rc) (tx : Int) (hw : Wf l) : Fn Tryz.prog 83 [recs l, I tx, .clo 84 []] (fun r S => r = .own 0 1 0 (ldTo l tx 5).length ∧ ∃ z : List Int, S = [some ⟨1, (ldTo l tx 5 ++ z).map I⟩]) := by
  have h := pagesOf_own lastC l tx 84 (fun r => decide (r.kind = 3)) hw loads_fn
  rwa [pgs_loads hw tx] at h
end Go.Proofs.YtagjgjhkdihodaaGreat.Am
end
section
set_option linter.unusedVariables false
set_option linter.unusedSimpArgs false
set_option maxRecDepth 100000
set_option maxHeartbeats 8000000
namespace Go.Proofs.YtagjgjhkdihodaaGreat.Am
open Go Go.RowKit Go.Proofs
attribute [local congr] opsP_congr codeP_congr AWP_congr afterR_congr preP_congr afterPre_congr gPre_congr gOps_congr condP_congr stepE_congr
attribute [local go_sem] ty_int ty_bool ty_str ty_u8 ty_ints ty_bytes ty_page ty_pages ty_lpage ty_lpages ty_rec ty_recs ty_lrec ty_lrecs ty_eng ty_leng
attribute [local go_sem] true_and and_true beq_true' beq_false' toNat_cast Int.natCast_nonneg Bool.not_not Bool.not_true Bool.not_false decide_true decide_false Bool.or_false Bool.false_or Bool.or_true Bool.true_or Bool.and_false Bool.false_and Nat.zero_add Int.toNat_of_nonneg wrap_succ wrap_m1 wrap_nat succ_m1 cast0 succ_pos' succ_ne' succ_bne' ge_iff_le gt_iff_lt if_true if_false
attribute [local go_sem] slt_r slt_I slt_p
theorem filterMap_range {n m : Nat} : ∀ {M : List Nat}, (∀ j ∈ M, j < m) → M.filterMap (fun j => (List.range' n m)[j]?) = M.map (· + n)
  | [], _ => rfl
  | j :: M, h => by
    have hj : (List.range' n m)[j]? = some (j + n) := by rw [List.getElem?_range' (h j (by simp))]; simp [Nat.add_comm]
    rw [List.filterMap_cons, hj, filterMap_range fun k hk => h k (by simp [hk])]
    rfl
theorem scS_app {mv : List Nat} {A B : Store} : scS mv (A ++ B) = scS mv A ++ scS mv B := by rw [scS_eq, scS_eq, scS_eq, List.map_append]
theorem scS_len {mv : List Nat} {A : Store} : (scS mv A).length = A.length := by rw [scS_eq]; simp
section
variable {P : Program}
/-- As enter_mid; the callee may lay some of the objects elsewhere. -/
theorem enter_midM (n : Nat) {f : FuncId} {args args' : List AV} {A X0 X1 B T : Store} {r : AV} {M : List Nat} {d : Tmp} {tm : List AV} {mv : List Nat} {Kont : St → Prop} (M' : List Nat) (h : AFn1 P f args' X0 r X1 M) (hT : T = A ++ shS n X0 ++ B) (hn : A.length = n) (hl : X1.length = X0.length)
    (h0 : X0.all (clO X0.length) = true) (h1 : X1.all (clO X0.length) = true) (hr : r.cl X0.length = true) (ha : args = args'.map (AV.sh n)) (hac : args'.all (AV.cl X0.length) = true) (hM : ∀ j ∈ M, j < X0.length) (hM' : M.map (· + n) = M') (hA : scS M' A = A) (hB : scS M' B = B)
    (hc : Kont ⟨(scT M' tm).set d (r.sh n), A ++ shS n X1 ++ B, M' ++ mv⟩) : afterR P (.enter f args) (some d) ⟨tm, T, mv⟩ Kont := by
  subst hT ha
  refine enter_at1 (List.range' n X0.length) h List.nodup_range' (keeps_row X0 n h0 fun i hi => ?_) (a2_cl hac) (filterMap_range hM) ?_
  · rw [← hn]
    exact mid_get (by rw [shS_len]; exact hi)
  · rw [cl_sh hr, hM']
    have hl2 : (scS M' (shS n X0)).length = X0.length := by rw [scS_len, shS_len]
    have := putS_row (rho (List.range' n X0.length) (A ++ shS n X0 ++ B).length) X1 (scS M' (shS n X0)) A B (by rw [hl2]; exact hl)
    rw [hl2, hn] at this
    rw [scS_app, scS_app, hA, hB, this, clO_sh h1]
    exact hc
end
section
variable {P : Program}
theorem enter_seeX {f : FuncId} {args args' : List AV} {r0 : AV} {X : Type} {U : X → Store} {d : Tmp} {tm : List AV} {S : Store} {mv : List Nat} {K : St → Prop} (h : Fn P f args' (fun r S' => r = r0 ∧ ∃ z, S' = U z)) (ha : All2 (Sees S true) args args')
    (hf : r0.flat = true) (hs : ∀ z (o : AObj), some o ∈ U z → ∀ x ∈ o.es, x.flat1 = true) (hk : ∀ z, K ⟨tm.set d (r0.sh S.length), S ++ shS S.length (U z), mv⟩) : afterR P (.enter f args) (some d) ⟨tm, S, mv⟩ K := by
  refine enter_any (h.frameG true ha (fun _ r S' hR => ?_)) ?_
  · obtain ⟨rfl, z, rfl⟩ := hR
    exact ⟨hf, hs z⟩
  rintro r S' mv' ⟨r1, S1, ⟨rfl, z, rfl⟩, rfl, rfl, rfl⟩
  exact hk z
end
theorem scS_I {mv : List Nat} {l : List Int} : scS mv [some ⟨1, l.map I⟩] = [some ⟨1, l.map I⟩] := by
  cases mv with
  | nil => rfl
  | cons a m =>
    show List.map _ _ = _
    simp only [List.map_cons, List.map_nil, Option.map_some, sc1_I]
theorem sD_len {e : Eng} : (sD e).length = 14 := rfl
theorem cl_sD {e : Eng} (hd : e.disk.length = 5) (hm : e.mem.length = 5) : (sD e).all (clO 14) = true := by
  unfold sD
  rw [List.all_append, cl_s13 hd hm (by omega)]
  rfl
theorem sh0_sD {e : Eng} : shS 0 (sD e) = sD e := by
  have h1 : ∀ x : AV, x.cl1 14 = true → x.sh1 0 = x := by
    intro x hx
    have h0 : ∀ y : AV, y.cl0 14 = true → y.sh0 0 = y := fun y hy => by cases y <;> simp_all [AV.sh0, AV.cl0, AV.pur0]
    cases x with
    | agg xs =>
      simp only [AV.cl1, List.all_eq_true] at hx
      simp only [AV.sh1]
      congr 1
      conv => rhs; rw [← List.map_id xs]
      exact List.map_congr_left fun y hy => h0 y (hx y hy)
    | tup xs => simp [AV.cl1, AV.cl0, AV.pur0] at hx
    | clo g xs => simp [AV.cl1, AV.cl0, AV.pur0] at hx
    | any => simp [AV.cl1, AV.cl0, AV.pur0] at hx
    | _ => (simp only [AV.cl1] at hx; simp only [AV.sh1]; exact h0 _ hx)
  have h2 : ∀ S : Store, (∀ o ∈ S, ∀ ob, o = some ob → ∀ x ∈ ob.es, x.sh1 0 = x) → shS 0 S = S := by
    intro S h
    unfold shS
    conv => rhs; rw [← List.map_id S]
    refine List.map_congr_left fun o ho => ?_
    cases o with
    | none => rfl
    | some ob =>
      have h3 : ob.es.map (AV.sh1 0) = ob.es := by
        conv => rhs; rw [← List.map_id ob.es]
        exact List.map_congr_left fun x hx => h _ ho ob rfl x hx
      simp [h3]
  refine h2 _ fun o ho ob e1 x hx => ?_
  subst e1
  have hd : ∀ (b : Nat) (ps : List Pg), ∀ x ∈ (dps b ps).map dA, x.sh1 0 = x := by
    intro b ps
    induction ps generalizing b with
    | nil => intro x hx; simp [dps] at hx
    | cons p ps ih =>
      intro x hx
      rw [dps, List.map_cons, List.mem_cons] at hx
      rcases hx with rfl | hx
      · rfl
      · exact ih _ x hx
  have hi : ∀ l : List Int, ∀ x ∈ l.map I, x.sh1 0 = x := fun l x hx => by obtain ⟨n, _, rfl⟩ := List.mem_map.1 hx; rfl
  have hr : ∀ l : List Rc, ∀ x ∈ l.map rA, x.sh1 0 = x := fun l x hx => by obtain ⟨n, _, rfl⟩ := List.mem_map.1 hx; rfl
  simp only [sD, s13, List.cons_append, List.nil_append, List.mem_cons, List.not_mem_nil, or_false, Option.some.injEq] at ho
  rcases ho with rfl | rfl | rfl | rfl | rfl | rfl | rfl | rfl | rfl | rfl | rfl | rfl | rfl | rfl
  all_goals first
    | exact hd _ _ x hx
    | exact hi _ x hx
    | exact hr _ x hx
    | (rw [List.mem_singleton] at hx; subst hx; rfl)
/-- A call over an engine behind a pointer; the caller's other objects come behind it. -/
theorem enter_sD {P : Program} {f : FuncId} {args : List AV} {e e' : Eng} {B T : Store} {r : AV} {M : List Nat} {d : Tmp} {tm : List AV} {mv : List Nat} {Kont : St → Prop} (h : AFn1 P f args (sD e) r (sD e') M) (hT : T = sD e ++ B) (hd : e.disk.length = 5) (hm : e.mem.length = 5) (hd' : e'.disk.length = 5) (hm' : e'.mem.length = 5)
    (hr : r.cl 14 = true) (hr0 : r.sh 0 = r) (hac : args.all (AV.cl 14) = true) (ha0 : args.map (AV.sh 0) = args) (hM : ∀ j ∈ M, j < 14) (hB : scS M B = B) (hc : Kont ⟨(scT M tm).set d r, sD e' ++ B, M ++ mv⟩) : afterR P (.enter f args) (some d) ⟨tm, T, mv⟩ Kont := by
  refine enter_midM 0 (A := []) (X1 := sD e') (B := B) M h (by rw [sh0_sD, hT]; rfl) rfl rfl (cl_sD hd hm) (cl_sD hd' hm') hr ha0.symm hac hM (by simp) (by cases M <;> rfl) hB ?_
  rw [hr0, sh0_sD]
  exact hc
theorem afn1_weak {P : Program} {f : FuncId} {args : List AV} {S S1 : Store} {r : AV} {M M2 : List Nat} (h : AFn1 P f args S r S1 M) (hM : ∀ j ∈ M, j ∈ M2) : AFn1 P f args S r S1 M2 := by
  refine ⟨h.1, fun ok μ w vs hok rs hl hr => (h.2 ok μ w vs hok rs hl hr).mono ?_⟩
  rintro e w' ⟨r', v, S', mv, μ', rfl, ⟨rfl, rfl, rfl⟩, rs', hr', md, lv, ln, mu⟩
  refine ⟨_, v, _, M2, μ', rfl, ⟨rfl, rfl, rfl⟩, rs', hr', md, lv, ln, fun i hi hc => mu i hi ?_⟩
  rw [← Bool.not_eq_true] at hc ⊢
  intro h2
  exact hc (by rw [List.contains_iff_mem] at h2 ⊢; exact hM i h2)
abbrev M13 : List Nat := [0, 1, 2, 3, 4, 5, 6, 7, 8, 9, 10, 11, 12]
theorem sh_s13 {n b : Nat} {e : Eng} : shS n (s13 b e) = s13 (n + b) e := by
  have hi : ∀ l : List Int, (l.map I).map (AV.sh1 n) = l.map I := fun l => by rw [List.map_map]; rfl
  have hr : ∀ l : List Rc, (l.map rA).map (AV.sh1 n) = l.map rA := fun l => by rw [List.map_map]; rfl
  simp only [s13, shS, List.map_cons, List.map_nil, Option.map_some, sh_dps, hi, hr, Nat.add_assoc]
theorem sh_sD {n : Nat} {e : Eng} : shS n (sD e) = s13 n e ++ [some ⟨5, [.agg [.own n 3 0 5, .own (6 + n) 3 0 5, .own (12 + n) 8 0 e.log.length, I e.safe, Bo e.down]]⟩] := by
  unfold sD
  rw [shS_app, sh_s13]
  simp [shS, AV.sh1, AV.sh0]
theorem sh_caps {n : Nat} : ∀ {caps : List AV}, caps.all AV.pur0 = true → caps.map (AV.sh n) = caps
  | [], _ => rfl
  | x :: xs, h => by
    rw [List.all_cons, Bool.and_eq_true] at h
    rw [List.map_cons, sh_caps h.2]
    cases x <;> simp [AV.pur0] at h <;> rfl
theorem cl_caps {m : Nat} : ∀ {caps : List AV}, caps.all AV.pur0 = true → caps.all (AV.cl m) = true
  | [], _ => rfl
  | x :: xs, h => by
    rw [List.all_cons, Bool.and_eq_true] at h
    rw [List.all_cons, cl_caps h.2, Bool.and_true]
    cases x <;> simp [AV.pur0] at h <;> rfl
theorem fin_dE5 {o1 o2 : Option AObj} {B : Store} {mv : List Nat} (e : Eng) {bb : Bool} (hd : e.disk.length = 5) (hm : e.mem.length = 5) :
    Fin 0 (.tup [.agg [.own 2 3 0 5, .own 8 3 0 5, .own 14 8 0 e.log.length, I e.safe, Bo e.down], Bo bb]) (o1 :: o2 :: (s13 2 e ++ B)) mv (fun r S' mv => (r = dR (e, bb) ∧ S' = dS 0 e) ∧ mv = []) := by
  have := fin_dE2 (o1 := o1) (o2 := o2) (X := s13 2 e) (B := B) (a := 2) (b := 8) (c := 14) (mv := mv) e (bb := bb) (dS_13 hd hm).symm rfl (by omega) (by omega)
  rw [hd, hm] at this
  exact this
theorem fin_dV (n n1 n2 : Nat) {A B S : Store} {mv : List Nat} (e : Eng) {bb : Bool} (hS : S = A ++ dS n e ++ B) (hA : A.length = n) (h1 : n + (1 + e.disk.length) = n1) (h2 : n + (2 + e.disk.length + e.mem.length) = n2) :
    Fin 0 (.tup [dV n n1 n2 e, Bo bb]) S mv (fun r S' mv => (r = dR (e, bb) ∧ S' = dS 0 e) ∧ mv = []) := by
  subst hS
  refine fin_row n (A := A) (X0 := dS 0 e) (B := B) (r0 := dR (e, bb)) (by rw [sh_dS, Nat.add_zero]) hA (by rw [dS_len]; exact cl_dS (by omega)) ?_ ?_ ⟨rfl, rfl⟩
  · have := sh_dE n 0 e
    simp only [AV.sh] at this ⊢
    rw [List.map_cons, this, Nat.add_zero, ← dV_eq h1 h2]
    rfl
  · simp only [AV.cl, List.all_cons, List.all_nil, Bool.and_true]
    rw [dS_len, cl_dE (by omega)]
    rfl
theorem fin_dVd (n n1 n2 : Nat) {S : Store} {mv : List Nat} (e : Eng) {bb : Bool} (hS : S.drop n = dS n e) (hl : n ≤ S.length) (h1 : n + (1 + e.disk.length) = n1) (h2 : n + (2 + e.disk.length + e.mem.length) = n2) :
    Fin 0 (.tup [dV n n1 n2 e, Bo bb]) S mv (fun r S' mv => (r = dR (e, bb) ∧ S' = dS 0 e) ∧ mv = []) :=
  fin_dV n n1 n2 (A := S.take n) (B := []) e (by rw [List.append_nil, ← hS, List.take_append_drop]) (by rw [List.length_take]; omega) h1 h2
theorem inv_mid {e : Eng} (h : Inv e) : e.mid := by
  have hv : ∀ {ps : List Pg}, Rgs ps → ∀ p ∈ ps, p.vals.length ≤ 2000000 := fun {ps} h p hm => by
    have h5 := h.len
    obtain ⟨k, hk, rfl⟩ := mem_at hm
    rw [h.sz.sz k (by omega)]
    omega
  exact ⟨by have := h.disk.len; omega, by have := h.mem.len; omega, by have := h.len; omega, hv h.disk, hv h.mem⟩
end Go.Proofs.YtagjgjhkdihodaaGreat.Am
end
section
set_option linter.unusedVariables false
set_option linter.unusedSimpArgs false
set_option maxRecDepth 100000
set_option maxHeartbeats 8000000
namespace Go.Proofs.YtagjgjhkdihodaaGreat.Am
open Go Go.RowKit Go.Proofs
attribute [local go_sem_proc] Nat.reduceAdd Nat.reduceSub Nat.reduceMul Nat.reduceLT Nat.reduceLeDiff Nat.reduceEqDiff Int.reduceBEq Int.reduceBNe Int.reduceNeg Int.reduceSub Int.reduceLE Int.reduceLT
attribute [local go_sem_proc ↓] reduceIte
attribute [local congr] opsP_congr codeP_congr AWP_congr afterR_congr preP_congr afterPre_congr gPre_congr gOps_congr condP_congr stepE_congr
attribute [local go_sem] ty_int ty_bool ty_str ty_u8 ty_ints ty_bytes ty_page ty_pages ty_lpage ty_lpages ty_rec ty_recs ty_lrec ty_lrecs ty_eng ty_leng
attribute [local go_sem] true_and and_true beq_true' beq_false' toNat_cast Int.natCast_nonneg Bool.not_not Bool.not_true Bool.not_false decide_true decide_false Bool.or_false Bool.false_or Bool.or_true Bool.true_or Bool.and_false Bool.false_and Nat.zero_add Int.toNat_of_nonneg wrap_succ wrap_m1 wrap_nat succ_m1 cast0 succ_pos' succ_ne' succ_bne' ge_iff_le gt_iff_lt if_true if_false
attribute [local go_sem] slt_r slt_I slt_p
def Eng.wl : Eng → List Int → Eng
  | e, [] => e
  | e, p :: ps => (e.write p).wl ps
theorem wl_app : ∀ (e : Eng) (l : List Int) (p : Int), e.wl (l ++ [p]) = (e.wl l).write p
  | e, [], p => rfl
  | e, q :: l, p => wl_app (e.write q) l p
theorem wl_mem : ∀ (e : Eng) (l : List Int), (e.wl l).mem = e.mem ∧ (e.wl l).log = e.log ∧ (e.wl l).down = e.down ∧ (e.wl l).disk.length = e.disk.length
  | e, [] => ⟨rfl, rfl, rfl, rfl⟩
  | e, q :: l => by
    obtain ⟨h1, h2, h3, h4⟩ := wl_mem (e.write q) l
    exact ⟨h1, h2, h3, by rw [Eng.wl, h4]; simp [Eng.write]⟩
theorem wl_sz : ∀ (e : Eng) (l : List Int), Sz e.disk → Sz e.mem → (∀ p ∈ l, 0 ≤ p ∧ p < 5) → Sz (e.wl l).disk
  | e, [], h, _, _ => h
  | e, q :: l, h, hm, hl => by
    have hq := hl q (by simp)
    refine wl_sz (e.write q) l ?_ hm fun p hp => hl p (by simp [hp])
    refine ⟨by simp [Eng.write, h.len], fun k hk => ?_⟩
    have h5 := h.len
    have hmq := hm.sz q.toNat (by omega)
    have hh := h.sz k hk
    simp only [at', List.getD, Int.toNat_natCast, Eng.write, List.getElem?_set] at *
    split
    · rw [if_pos (by omega)]
      exact hmq
    · exact hh
def Eng.don (e : Eng) (tx : Int) : Eng := ⟨(e.wl (ldTo e.log tx 5)).disk, e.mem, e.alog (doneR tx), (e.alog (doneR tx)).length, e.down⟩
theorem doneD (e : Eng) (tx : Int) (hi : Inv e) : AFn1 Tryz.prog 99 [.ref 13 5 0 0, .ro [iD tx]] (sD e) (.tup []) (sD (e.don tx)) [12, 1, 2, 3, 4, 5] := by
  have hd5 := hi.disk.len
  have hm5 := hi.mem.len
  have hw := hi.wf
  have hlen := hi.len
  have cL := loads_own e.log tx hw
  obtain ⟨ld, hld⟩ : ∃ ld, ldTo e.log tx 5 = ld := ⟨_, rfl⟩
  have hll : ld.length ≤ 5 := by rw [← hld]; exact ldTo_len _ _ _
  have hlm : ∀ p ∈ ld, 0 ≤ p ∧ p < 5 := fun p hp => by
    rw [← hld, ldTo_mem] at hp
    obtain ⟨k, h1, rfl, _⟩ := hp
    omega
  rw [hld] at cL
  unfold Eng.don
  rw [hld]
  refine afn1_of Tryz.func99 rfl rfl ?_
  simp -implicitDefEqProofs only [go_sem, Tryz.f99, sD_len]
  refine cp_drawG (id := 0) 8 (fun S => getO S 13 = some ⟨5, [dW e]⟩) mixed rfl ?_
  ((refine expG_get 0 (.ref 13 5 0 0) rfl ?_ ?_ (by repeat (first | rfl | refine And.intro rfl ?_)) ?_ ?_); (· decide +kernel); (· decide +kernel); (· (intro S hS0; simp -implicitDefEqProofs only [go_sem, hS0, *])); try simp -implicitDefEqProofs only [go_sem, List.set_cons_succ, List.set_cons_zero])
  ((refine expG_get 1 (.ref 13 5 0 0) rfl ?_ ?_ (by repeat (first | rfl | refine And.intro rfl ?_)) ?_ ?_); (· decide +kernel); (· decide +kernel); (· (intro S hS0; simp -implicitDefEqProofs only [go_sem, hS0, *])); try simp -implicitDefEqProofs only [go_sem, List.set_cons_succ, List.set_cons_zero])
  ((refine expG_get 2 (.ref 13 5 0 2) rfl ?_ ?_ (by repeat (first | rfl | refine And.intro rfl ?_)) ?_ ?_); (· decide +kernel); (· decide +kernel); (· (intro S hS0; simp -implicitDefEqProofs only [go_sem, hS0, *])); try simp -implicitDefEqProofs only [go_sem, List.set_cons_succ, List.set_cons_zero])
  ((refine expG_get 3 (.own 12 8 0 e.log.length) rfl ?_ ?_ (by repeat (first | rfl | refine And.intro rfl ?_)) ?_ ?_); (· decide +kernel); (· decide +kernel); (· (intro S hS0; simp -implicitDefEqProofs only [go_sem, hS0, *])); try simp -implicitDefEqProofs only [go_sem, List.set_cons_succ, List.set_cons_zero])
  ((refine expG_get 4 (I tx) rfl ?_ ?_ (by repeat (first | rfl | refine And.intro rfl ?_)) ?_ ?_); (· decide +kernel); (· decide +kernel); (· (intro S hS0; simp -implicitDefEqProofs only [go_sem, hS0, *])); try simp -implicitDefEqProofs only [go_sem, List.set_cons_succ, List.set_cons_zero])
  ((refine expG_get 7 (I 0) rfl ?_ ?_ (by repeat (first | rfl | refine And.intro rfl ?_)) ?_ ?_); (· decide +kernel); (· decide +kernel); (· (intro S hS0; simp -implicitDefEqProofs only [go_sem, hS0, *])); try simp -implicitDefEqProofs only [go_sem, List.set_cons_succ, List.set_cons_zero])
  ((with_reducible refine expG_one 5 ?_ ?_); (· decide +kernel); try simp -implicitDefEqProofs only [go_sem, *])
  refine enter_seeX cL (.cons _ _ _ _ (see_recs rfl rfl) (.cons _ _ _ _ (see_same rfl) (.cons _ _ _ _ (see_same rfl) .nil))) rfl ?_ ?_
  · intro z o ho x hx
    rw [List.mem_singleton] at ho
    cases ho
    obtain ⟨n, _, rfl⟩ := List.mem_map.1 hx
    rfl
  intro z
  have g13 : ∀ (e : Eng) T, getO (sD e ++ T) 13 = some ⟨5, [dW e]⟩ := fun e T => rfl
  have g14 : ∀ (e : Eng) o T, getO (sD e ++ some o :: T) 14 = some o := fun e o T => rfl
  simp -implicitDefEqProofs only [go_sem, sD_len, g13]
  (repeat' (first | ((with_reducible first | refine gon ?_ ?_ | refine gos ?_ ?_ | refine cdn ?_ ?_ | refine cds ?_ ?_ | refine gpn ?_ ?_ | refine gps ?_ ?_) <;> intro h <;> (try simp only [dt, df, gi, gt] at h) <;> try simp -implicitDefEqProofs only [go_sem, *]) | ((with_reducible refine And.intro ?_ ?_); (· first | omega | (simp only [List.length_take]; omega)); try simp -implicitDefEqProofs only [go_sem, *]) | first | ((with_reducible refine expG_one 6 ?_ ?_); (· decide +kernel); try simp -implicitDefEqProofs only [go_sem, *]) | ((with_reducible refine expG_end ?_ ?_); (· decide +kernel); try simp -implicitDefEqProofs only [go_sem, *])))
  have hls : ∀ i, Sz (e.wl (ld.take i)).disk := fun i => wl_sz e _ hi.disk.sz hi.mem.sz fun p hp => hlm p (List.mem_of_mem_take hp)
  refine cp_loop (fun i : Nat => ⟨(.ref 13 5 0 0 :: .ro [iD tx] :: .any :: .any :: .any :: .any :: .any :: .any :: .any :: .any :: .own 14 1 0 ld.length :: I (ld.length : Int) :: I (i : Int) :: .any :: .any :: .any :: .any :: .any :: .any :: .any :: .any :: .any :: .any :: .any :: .any :: .any :: .any :: .any :: .any :: .any :: .any :: .any :: []), sD (e.wl (ld.take i)) ++ [some ⟨1, (ld ++ z).map I⟩], [1, 2, 3, 4, 5]⟩) (fun i => i ≤ ld.length) (fun i => ld.length - i) 0 ?_ ?_ ?_
  · simp
  · refine WkN.trans (wk_tm ?_) (wk_mv (by simp))
    repeat (first | exact WL.nil | (with_reducible refine WL.any _ _ _ ?_) | (with_reducible refine WL.same _ _ _ ?_) | (refine WL.eq _ _ _ _ rfl ?_))
  · rintro i hi5
    have hbi : i < 4611686018427387904 := by omega
    obtain ⟨hwm, hwl, hwd, hwk⟩ := wl_mem e (ld.take i)
    have hzd := hls i
    have hzm : Sz (e.wl (ld.take i)).mem := by rw [hwm]; exact hi.mem.sz
    by_cases hil : i < ld.length
    · have hil' : (i : Int) < (ld.length : Int) := by omega
      obtain ⟨p, hp5, hpe⟩ : ∃ p : Nat, p < 5 ∧ at' ld (i : Int) = (p : Int) := by
        have := hlm _ (at_mem ld i hil)
        exact ⟨(at' ld (i : Int)).toNat, by omega, by omega⟩
      have hat : at' (ld ++ z) (i : Int) = (p : Int) := by rw [← hpe]; simp [at', List.getD, List.getElem?_append_left hil]
      have hwr := writeD (e.wl (ld.take i)) p hp5 hzd hzm
      have hnx : e.wl (ld.take (i + 1)) = (e.wl (ld.take i)).write (p : Int) := by rw [take_succ hil, wl_app, hpe]
      have n13 : ¬ (13 = 1 + p) := by omega
      have n14 : ¬ (14 = 1 + p) := by omega
      have hll2 : i < ld.length + z.length := by omega
      simp -implicitDefEqProofs only [go_sem, hil', g13, g14]
      (repeat' (first | ((with_reducible first | refine gon ?_ ?_ | refine gos ?_ ?_ | refine cdn ?_ ?_ | refine cds ?_ ?_ | refine gpn ?_ ?_ | refine gps ?_ ?_) <;> intro h <;> (try simp only [dt, df, gi, gt] at h) <;> try simp -implicitDefEqProofs only [go_sem, *]) | ((with_reducible refine And.intro ?_ ?_); (· first | omega | (simp only [List.length_take]; omega)); try simp -implicitDefEqProofs only [go_sem, *]) | fail))
      refine enter_sD (e' := (e.wl (ld.take i)).write (p : Int)) (M := [1 + p]) hwr rfl hzd.len hzm.len (by simp [Eng.write, hzd.len]) (by simp [Eng.write, hzm.len]) rfl rfl rfl rfl (by simp; omega) scS_I ?_
      simp -implicitDefEqProofs only [go_sem, scT, n13, n14, hbi]
      refine ⟨i + 1, by omega, by omega, ?_⟩
      rw [hnx]
      refine WkN.trans (wk_tm ?_) (wk_mv (by simp; omega))
      repeat (first | exact WL.nil | (with_reducible refine WL.any _ _ _ ?_) | (with_reducible refine WL.same _ _ _ ?_) | (refine WL.eq _ _ _ _ rfl ?_))
    · have hil' : ¬ (i : Int) < (ld.length : Int) := by omega
      have ei : i = ld.length := by omega
      subst ei
      rw [List.take_length] at hzd hzm hwm hwl hwd hwk ⊢
      have had := addD (e.wl ld) (doneR tx) hzd hzm (by rw [hwl]; omega)
      simp -implicitDefEqProofs only [go_sem, hil', g13, g14]
      (repeat' (first | ((with_reducible first | refine gon ?_ ?_ | refine gos ?_ ?_ | refine cdn ?_ ?_ | refine cds ?_ ?_ | refine gpn ?_ ?_ | refine gps ?_ ?_) <;> intro h <;> (try simp only [dt, df, gi, gt] at h) <;> try simp -implicitDefEqProofs only [go_sem, *]) | ((with_reducible refine And.intro ?_ ?_); (· first | omega | (simp only [List.length_take]; omega)); try simp -implicitDefEqProofs only [go_sem, *]) | fail))
      refine enter_sD (e' := ⟨(e.wl ld).disk, (e.wl ld).mem, (e.wl ld).alog (doneR tx), (e.wl ld).safe, (e.wl ld).down⟩) (M := [12]) had rfl hzd.len hzm.len hzd.len hzm.len rfl rfl rfl rfl (by simp) scS_I ?_
      have s13 : ∀ (e : Eng) x T, (sD e ++ T).set 13 x = s13 0 e ++ x :: T := fun e x T => rfl
      simp -implicitDefEqProofs only [go_sem, scT, g13]
      (repeat' (first | ((with_reducible first | refine gon ?_ ?_ | refine gos ?_ ?_ | refine cdn ?_ ?_ | refine cds ?_ ?_ | refine gpn ?_ ?_ | refine gps ?_ ?_) <;> intro h <;> (try simp only [dt, df, gi, gt] at h) <;> try simp -implicitDefEqProofs only [go_sem, *]) | ((with_reducible refine And.intro ?_ ?_); (· first | omega | (simp only [List.length_take]; omega)); try simp -implicitDefEqProofs only [go_sem, *]) | first | ((with_reducible refine cp_draw2 (id := 6) 6 3 mixed ?_ ?_ ?_ ?_); (· decide +kernel); (· first | (simp only [List.all_cons, List.all_nil, List.length_cons, List.length_nil, Nat.reduceAdd, Nat.reduceLT, decide_true, Bool.and_true, Bool.and_self]; done) | rfl); (· rfl); try simp -implicitDefEqProofs only [go_sem, List.append_nil, *]) | ((with_reducible refine exp_end ?_ ?_); (· decide +kernel); try simp -implicitDefEqProofs only [go_sem, *]) | ((with_reducible refine exp_one 6 ?_ ?_); (· decide +kernel); try simp -implicitDefEqProofs only [go_sem, *]) | ((with_reducible refine exp_one 7 ?_ ?_); (· decide +kernel); try simp -implicitDefEqProofs only [go_sem, *]) | ((with_reducible refine exp_one 8 ?_ ?_); (· decide +kernel); try simp -implicitDefEqProofs only [go_sem, *])))
      have hal : (e.wl ld).alog (doneR tx) = e.alog (doneR tx) := by unfold Eng.alog Eng.rc; rw [hwl]
      rw [hal, hwd, hwm]
      exact fin_sD (e := ⟨(e.wl ld).disk, e.mem, e.alog (doneR tx), ((e.alog (doneR tx)).length : Nat), e.down⟩) (T := [some ⟨1, (ld ++ z).map I⟩]) (hwk.trans hd5) hm5 rfl ⟨rfl, rfl, rfl⟩
/-- What a function that may end a transaction hands back. -/
theorem ending_ok (e : Eng) (tx : Int) (g : FuncId) (caps : List AV) (e' : Eng) (hok : okE e = true) (hs : e.small) (hl : ¬ (e.down = true ∨ lastN e.log tx = 0)) (hd' : e'.disk.length = 5) (hm' : e'.mem.length = 5)
    (hc : caps.all AV.pur0 = true) (hw : AFn1 Tryz.prog g (.ref 13 5 0 0 :: caps) (sD e) (.tup []) (sD e') M13) : Fn Tryz.prog 98 [eA e, I tx, .clo g caps] (fun r S => r = dR (e', true) ∧ S = dS 0 e') := by
  have hi := inv_of_ok hok
  have hlen := hi.len
  have hd5 := hi.disk.len
  have hm5 := hi.mem.len
  have c1 := okI e hs
  rw [hok] at c1
  have c2 := copiedE_deep e hi.disk.sz hi.mem.sz (by omega)
  have c3 := lastC e.log tx (by omega)
  have hdn : e.down = false := by
    rw [← Bool.not_eq_true]
    exact fun h => hl (.inl h)
  have hln : (((lastN e.log tx : Nat) : Int) == 0) = false := by
    rw [← Bool.not_eq_true]
    intro h
    simp at h
    exact hl (.inr h)
  replace hdn := Hid.mk' hdn
  clear hok hi hl
  refine fn_of Tryz.func98 rfl rfl ?_
  simp -implicitDefEqProofs only [go_sem, Tryz.f98]
  (repeat' (first | ((with_reducible first | refine gon ?_ ?_ | refine gos ?_ ?_ | refine cdn ?_ ?_ | refine cds ?_ ?_ | refine gpn ?_ ?_ | refine gps ?_ ?_) <;> intro h <;> (try simp only [dt, df, gi, gt] at h) <;> try simp -implicitDefEqProofs only [go_sem, *]) | ((with_reducible refine And.intro ?_ ?_); (· first | omega | (simp only [List.length_take]; omega)); try simp -implicitDefEqProofs only [go_sem, *]) | ((with_reducible refine enter_pu (c1) ?_ ?_ ?_); (· rfl); (· rfl); try simp -implicitDefEqProofs only [go_sem, *])))
  refine enter_fnE 2 8 14 rfl (by omega) (by omega) c2 rfl ?_
  intro A hA
  rw [dS_13 hd5 hm5] at hA
  subst hA
  have hdn' : e.down = false := hdn
  simp only [s13, dV, hd5, hm5, List.cons_append, List.nil_append]
  simp -implicitDefEqProofs only [go_sem, hdn']
  refine enter_see1 c3 (.cons _ _ _ _ (see_recs rfl rfl) (.cons _ _ _ _ (see_same rfl) .nil)) rfl rfl ?_
  simp -implicitDefEqProofs only [go_sem, hln]
  refine enter_midM 2 (A := [_, _]) (X0 := sD e) (X1 := sD e') (B := []) (args' := .ref 13 5 0 0 :: caps) [2, 3, 4, 5, 6, 7, 8, 9, 10, 11, 12, 13, 14] hw (by rw [sh_sD, hdn']; rfl) rfl rfl (cl_sD hd5 hm5) (cl_sD hd' hm') rfl ?_ ?_ (by rw [sD_len]; decide) rfl rfl rfl ?_
  · rw [List.map_cons, sh_caps hc]
    rfl
  · rw [List.all_cons, sD_len, cl_caps hc]
    rfl
  rw [sh_sD]
  simp only [s13, scT, List.cons_append, List.nil_append]
  have hs15 : ∀ k, AV.sc [2, 3, 4, 5, 6, 7, 8, 9, 10, 11, 12, 13, 14] (.ref 15 5 0 k) = .ref 15 5 0 k := fun k => rfl
  have hs1 : ∀ k, AV.sc [2, 3, 4, 5, 6, 7, 8, 9, 10, 11, 12, 13, 14] (.ref 1 5 0 k) = .ref 1 5 0 k := fun k => rfl
  simp -implicitDefEqProofs only [go_sem, hs15, hs1]
  exact fin_dE5 e' hd' hm'
theorem ending_no (e : Eng) (tx : Int) (g : FuncId) (caps : List AV) (hok : okE e = true) (hs : e.small) (hl : e.down = true ∨ lastN e.log tx = 0) (hc : caps.all AV.pur0 = true) :
    Fn Tryz.prog 98 [eA e, I tx, .clo g caps] (fun r S => r = dR (e, false) ∧ S = dS 0 e) := by
  have hi := inv_of_ok hok
  have hlen := hi.len
  have hd5 := hi.disk.len
  have hm5 := hi.mem.len
  have c1 := okI e hs
  rw [hok] at c1
  have c2 := copiedE_deep e hi.disk.sz hi.mem.sz (by omega)
  have c3 := lastC e.log tx (by omega)
  obtain ⟨d, hdn⟩ : ∃ d, e.down = d := ⟨_, rfl⟩
  have hln : d = false → (((lastN e.log tx : Nat) : Int) == 0) = true := by
    intro h
    rw [← hdn] at h
    rcases hl with hl | hl
    · rw [hl] at h; cases h
    · rw [hl]; rfl
  replace hdn := Hid.mk' hdn
  clear hok hi hl
  refine fn_of Tryz.func98 rfl rfl ?_
  simp -implicitDefEqProofs only [go_sem, Tryz.f98]
  (repeat' (first | ((with_reducible first | refine gon ?_ ?_ | refine gos ?_ ?_ | refine cdn ?_ ?_ | refine cds ?_ ?_ | refine gpn ?_ ?_ | refine gps ?_ ?_) <;> intro h <;> (try simp only [dt, df, gi, gt] at h) <;> try simp -implicitDefEqProofs only [go_sem, *]) | ((with_reducible refine And.intro ?_ ?_); (· first | omega | (simp only [List.length_take]; omega)); try simp -implicitDefEqProofs only [go_sem, *]) | ((with_reducible refine enter_pu (c1) ?_ ?_ ?_); (· rfl); (· rfl); try simp -implicitDefEqProofs only [go_sem, *])))
  refine enter_fnE 2 8 14 rfl (by omega) (by omega) c2 rfl ?_
  intro A hA
  rw [dS_13 hd5 hm5] at hA
  subst hA
  have hdn' : e.down = d := hdn
  simp only [s13, dV, hd5, hm5, List.cons_append, List.nil_append]
  have hfin : ∀ {o1 o2 : Option AObj} {B : Store} {mv : List Nat}, Fin 0 (.tup [.agg [.own 2 3 0 5, .own 8 3 0 5, .own 14 8 0 e.log.length, I e.safe, Bo d], Bo false]) (o1 :: o2 :: (s13 2 e ++ B)) mv (fun r S' mv => (r = dR (e, false) ∧ S' = dS 0 e) ∧ mv = []) := fun {o1 o2 B mv} => by
    rw [← hdn']
    exact fin_dE5 e hd5 hm5
  rcases d with _ | _
  · simp -implicitDefEqProofs only [go_sem, hdn']
    refine enter_see1 c3 (.cons _ _ _ _ (see_recs rfl rfl) (.cons _ _ _ _ (see_same rfl) .nil)) rfl rfl ?_
    simp -implicitDefEqProofs only [go_sem, hln rfl, hdn']
    exact hfin
  · simp -implicitDefEqProofs only [go_sem, hdn']
    (repeat' (first | ((with_reducible first | refine gon ?_ ?_ | refine gos ?_ ?_ | refine cdn ?_ ?_ | refine cds ?_ ?_ | refine gpn ?_ ?_ | refine gps ?_ ?_) <;> intro h <;> (try simp only [dt, df, gi, gt] at h) <;> try simp -implicitDefEqProofs only [go_sem, *]) | ((with_reducible refine And.intro ?_ ?_); (· first | omega | (simp only [List.length_take]; omega)); try simp -implicitDefEqProofs only [go_sem, *]) | fail))
    exact hfin
end Go.Proofs.YtagjgjhkdihodaaGreat.Am
end
section
set_option linter.unusedVariables false
set_option linter.unusedSimpArgs false
set_option maxRecDepth 100000
set_option maxHeartbeats 8000000
namespace Go.Proofs.YtagjgjhkdihodaaGreat.Am
open Go Go.RowKit Go.Proofs
attribute [local go_sem_proc] Nat.reduceAdd Nat.reduceSub Nat.reduceMul Nat.reduceLT Nat.reduceLeDiff Nat.reduceEqDiff Int.reduceBEq Int.reduceBNe Int.reduceNeg Int.reduceSub Int.reduceLE Int.reduceLT
attribute [local go_sem_proc ↓] reduceIte
attribute [local congr] opsP_congr codeP_congr AWP_congr afterR_congr preP_congr afterPre_congr gPre_congr gOps_congr condP_congr stepE_congr
attribute [local go_sem] ty_int ty_bool ty_str ty_u8 ty_ints ty_bytes ty_page ty_pages ty_lpage ty_lpages ty_rec ty_recs ty_lrec ty_lrecs ty_eng ty_leng
attribute [local go_sem] true_and and_true beq_true' beq_false' toNat_cast Int.natCast_nonneg Bool.not_not Bool.not_true Bool.not_false decide_true decide_false Bool.or_false Bool.false_or Bool.or_true Bool.true_or Bool.and_false Bool.false_and Nat.zero_add Int.toNat_of_nonneg wrap_succ wrap_m1 wrap_nat succ_m1 cast0 succ_pos' succ_ne' succ_bne' ge_iff_le gt_iff_lt if_true if_false
attribute [local go_sem] slt_r slt_I slt_p
theorem at_set5 {ps : List Pg} (h : ps.length = 5) {q : Int} (hq : 0 ≤ q ∧ q < 5) (x : Pg) {k : Nat} (hk : k < 5) : at' (ps.set q.toNat x) (k : Int) = if q = (k : Int) then x else at' ps (k : Int) := by
  simp only [at', List.getD, Int.toNat_natCast, List.getElem?_set]
  by_cases e : q = (k : Int)
  · have e2 : q.toNat = k := by omega
    rw [if_pos e, if_pos e2, if_pos (by omega)]
    rfl
  · have e2 : ¬ q.toNat = k := by omega
    rw [if_neg e, if_neg e2]
theorem wl_at : ∀ (e : Eng) (l : List Int), e.disk.length = 5 → (∀ p ∈ l, 0 ≤ p ∧ p < 5) → ∀ k : Nat, k < 5 → at' (e.wl l).disk (k : Int) = if (k : Int) ∈ l then at' e.mem (k : Int) else at' e.disk (k : Int)
  | e, [], _, _, k, _ => by simp [Eng.wl]
  | e, q :: l, h5, hl, k, hk => by
    have hq := hl q (by simp)
    rw [Eng.wl, wl_at (e.write q) l (by simp [Eng.write, h5]) (fun p hp => hl p (by simp [hp])) k hk]
    simp only [Eng.write, at_set5 h5 hq _ hk, List.mem_cons]
    by_cases h1 : (k : Int) ∈ l
    · simp [h1]
    · by_cases h2 : q = (k : Int)
      · simp [h1, h2]
      · have h3 : ¬ (k : Int) = q := fun h => h2 h.symm
        simp [h1, h2, h3]
theorem writes_at : ∀ (e : Eng) (ns : List Nat), e.disk.length = 5 → (∀ n ∈ ns, 0 ≤ (at' e.log ((n : Int) - 1)).page ∧ (at' e.log ((n : Int) - 1)).page < 5) → ∀ k : Nat, k < 5 →
    at' (e.writes ns).disk (k : Int) = (if (ns.any fun n => decide ((at' e.log ((n : Int) - 1)).kind = 3) && decide ((at' e.log ((n : Int) - 1)).page = (k : Int))) = true then at' e.mem (k : Int) else at' e.disk (k : Int)) ∧ (e.writes ns).disk.length = 5 ∧ (e.writes ns).mem = e.mem ∧ (e.writes ns).log = e.log ∧ (e.writes ns).down = e.down
  | e, [], h5, _, k, _ => by simp [Eng.writes, h5]
  | e, n :: ns, h5, hl, k, hk => by
    have hq := hl n (by simp)
    rw [Eng.writes]
    by_cases h3 : (at' e.log ((n : Int) - 1)).kind = 3
    · rw [if_pos h3]
      obtain ⟨h1, h2, h4, h6, h7⟩ := writes_at (e.write (at' e.log ((n : Int) - 1)).page) ns (by simp [Eng.write, h5]) (fun m hm => hl m (by simp [hm])) k hk
      refine ⟨?_, h2, h4, h6, h7⟩
      rw [h1]
      simp only [Eng.write, at_set5 h5 hq _ hk, List.any_cons, h3, decide_true, Bool.true_and]
      by_cases e1 : (at' e.log ((n : Int) - 1)).page = (k : Int)
      · simp [e1]
      · rw [if_neg e1, decide_eq_false e1, Bool.false_or]
        rfl
    · rw [if_neg h3]
      obtain ⟨h1, h2, h4, h6, h7⟩ := writes_at e ns h5 (fun m hm => hl m (by simp [hm])) k hk
      refine ⟨?_, h2, h4, h6, h7⟩
      rw [h1, List.any_cons, decide_eq_false h3, Bool.false_and, Bool.false_or]
theorem ext5 {a b : List Pg} (ha : a.length = 5) (hb : b.length = 5) (h : ∀ k : Nat, k < 5 → at' a (k : Int) = at' b (k : Int)) : a = b := by
  refine List.ext_getElem (by omega) fun k h1 h2 => ?_
  have := h k (by omega)
  simpa [at', List.getD, List.getElem?_eq_getElem h1, List.getElem?_eq_getElem h2] using this
theorem lastTo_txE (l : List Rc) (tx : Int) : ∀ n, lastTo l tx n ≠ 0 → ∃ b, b < n ∧ (at' l (b : Int)).tx = tx
  | 0, h => absurd rfl h
  | n + 1, h => by
    by_cases e : (at' l (n : Int)).tx = tx
    · exact ⟨n, by omega, e⟩
    · unfold lastTo at h
      rw [if_neg e] at h
      obtain ⟨b, h1, h2⟩ := lastTo_txE l tx n h
      exact ⟨b, by omega, h2⟩
theorem last_tx {l : List Rc} (hw : Wf l) {tx : Int} (h : lastN l tx ≠ 0) : 1 ≤ tx ∧ tx ≤ 3 := by
  obtain ⟨b, h1, rfl⟩ := lastTo_txE l tx _ h
  have := Rc.ok_tx (hw.rok b h1)
  omega
/-- What the program's EndDone leaves. -/
def doneI (e : Eng) (tx : Int) : Eng × Bool := if e.down = true ∨ lastN e.log tx = 0 then (e, false) else (e.don tx, true)
theorem don_eq {e : Eng} (hi : Inv e) (tx : Int) : e.done tx = doneI e tx := by
  have hw := hi.wf
  have hlen := hi.len
  have hd5 := hi.disk.len
  by_cases hl : e.liveB tx = true
  · have hl2 := hl
    unfold Eng.liveB isIn at hl2
    simp only [Bool.and_eq_true, Bool.not_eq_true', decide_eq_true_eq] at hl2
    obtain ⟨⟨l1, l2⟩, l3⟩ := hl2
    have hle := lastN_le e.log tx
    obtain ⟨iw, -⟩ := done1_inv hi hl
    obtain ⟨w1, w2, w3⟩ := writes_log (chain e.log (lastN e.log tx)) e
    have hcm : ∀ n ∈ chain e.log (lastN e.log tx), 0 ≤ (at' e.log ((n : Int) - 1)).page ∧ (at' e.log ((n : Int) - 1)).page < 5 := fun n hn => by
      obtain ⟨b, e1, e2⟩ := chain_mem hw _ hle hn
      obtain ⟨m, hm, hp⟩ := Rc.ok_page (hw.rok b e2)
      rw [e1, show (((b + 1 : Nat) : Int) - 1) = (b : Int) by omega, hp]
      omega
    have hf : (e.writes (chain e.log (lastN e.log tx))).fits (doneR tx) = true := fin_need iw (.inl rfl) ⟨l2.1, l2.2⟩ (by rw [w1]; omega)
    have hdk : (e.writes (chain e.log (lastN e.log tx))).disk = (e.wl (ldTo e.log tx 5)).disk := by
      refine ext5 iw.disk.len (by rw [(wl_mem e _).2.2.2]; exact hd5) fun k hk => ?_
      rw [(writes_at e _ hd5 hcm k hk).1, wl_at e _ hd5 (fun p hp => by rw [ldTo_mem] at hp; obtain ⟨j, h1, rfl, _⟩ := hp; omega) k hk]
      have hiff : ((k : Int) ∈ ldTo e.log tx 5) ↔ loadIn e.log tx (k : Int) = true := by
        rw [ldTo_mem]
        constructor
        · rintro ⟨p, h1, h2, h3⟩
          rwa [h2]
        · intro h
          exact ⟨k, hk, rfl, h⟩
      unfold loadIn at hiff
      by_cases h : (k : Int) ∈ ldTo e.log tx 5
      · rw [if_pos h, if_pos (hiff.1 h)]
      · rw [if_neg h, if_neg (fun h2 => h (hiff.2 h2))]
    have hal : (e.writes (chain e.log (lastN e.log tx))).alog (doneR tx) = e.alog (doneR tx) := by unfold Eng.alog Eng.rc; rw [w1]
    have h1 : e.done1 tx = ⟨(e.wl (ldTo e.log tx 5)).disk, e.mem, e.alog (doneR tx), (e.writes (chain e.log (lastN e.log tx))).safe, e.down⟩ := by
      unfold Eng.done1 Eng.add
      rw [if_pos hf]
      simp only [Eng.added]
      have ha : (e.writes (chain e.log (lastN e.log tx))).amem (doneR tx) = e.mem := by
        unfold Eng.amem
        rw [if_neg (by simp [doneR, chg]), w2]
      rw [hdk, ha, hal, w3]
    unfold Eng.done doneI
    rw [if_pos hl, if_neg (by
      rintro (h | h)
      · rw [l1] at h; cases h
      · exact l3 h), h1]
    rfl
  · unfold Eng.done doneI
    rw [if_neg hl]
    by_cases hx : e.down = true ∨ lastN e.log tx = 0
    · rw [if_pos hx]
    · exfalso
      refine hl ?_
      unfold Eng.liveB isIn
      simp only [Bool.and_eq_true, Bool.not_eq_true', decide_eq_true_eq]
      have h2 : e.down = false := by
        rw [← Bool.not_eq_true]
        exact fun h => hx (.inl h)
      have h3 : lastN e.log tx ≠ 0 := fun h => hx (.inr h)
      exact ⟨⟨h2, last_tx hw h3⟩, h3⟩
theorem ending_I (e : Eng) (tx : Int) (hok : okE e = true) (hs : e.small) : Fn Tryz.prog 98 [eA e, I tx, .clo 99 [.ro [iD tx]]] (fun r S => r = dR (doneI e tx) ∧ S = dS 0 (doneI e tx).1) := by
  have hi := inv_of_ok hok
  unfold doneI
  by_cases h : e.down = true ∨ lastN e.log tx = 0
  · rw [if_pos h]
    exact ending_no e tx _ _ hok hs h rfl
  · rw [if_neg h]
    exact ending_ok e tx _ _ (e.don tx) hok hs h ((wl_mem e _).2.2.2.trans hi.disk.len) hi.mem.len rfl (afn1_weak (doneD e tx hi) (by decide))
theorem EndDoneI_own (e : Eng) (tx : Int) (hok : okE e = true) (hs : e.small) : Fn Tryz.prog 45 [eA e, I tx] (fun r S => r = dR (doneI e tx) ∧ S = dS 0 (doneI e tx).1) := by
  have c1 := ending_I e tx hok hs
  obtain ⟨⟨q, b⟩, hq⟩ : ∃ q, doneI e tx = q := ⟨_, rfl⟩
  rw [hq] at c1 ⊢
  clear hq hok
  obtain ⟨n1, hn1⟩ : ∃ n1, 3 + (1 + q.disk.length) = n1 := ⟨_, rfl⟩
  obtain ⟨n2, hn2⟩ : ∃ n2, 3 + (2 + q.disk.length + q.mem.length) = n2 := ⟨_, rfl⟩
  refine fn_of Tryz.func45 rfl rfl ?_
  simp -implicitDefEqProofs only [go_sem, Tryz.f45]
  refine enter_seeE 3 n1 n2 rfl hn1 hn2 c1 (.cons _ _ _ _ (see_same rfl) (.cons _ _ _ _ (see_same rfl) (.cons _ _ _ _ (see_arg (.clo _ _ _ (.cons _ _ _ _ (.ref _ _ _ _ _ _ rfl rfl rfl Nat.one_pos Nat.one_pos (.cons _ _ _ _ (.same _ rfl) .nil) (by simp [iD, D.scalar])) .nil))) .nil))) ?_
  intro B hB
  simp -implicitDefEqProofs only [go_sem, true_and]
  exact fin_dVd 3 n1 n2 q hB (by simp) hn1 hn2
theorem see_dR (q : Eng × Bool) : Sees (dS 0 q.1) true (dR q) (.tup [eA q.1, Bo q.2]) := see_tup (.cons _ _ _ _ (see_dE (Has.self _)) (.cons _ _ _ _ (see_same rfl) .nil))
/-- A result that is data alone, as a result with no object. -/
theorem EndDoneI_none (e : Eng) (tx : Int) (hok : okE e = false) (hs : e.small) : Fn Tryz.prog 45 [eA e, I tx] (fun r S => r = .tup [zA, Bo false] ∧ S = []) := by
  have c1 := okI e hs
  rw [hok] at c1
  have c2 : Fn Tryz.prog 98 [eA e, I tx, .clo 99 [.ro [iD tx]]] (fun r S => r = .tup [zA, Bo false] ∧ S = []) := by
    refine fn_of Tryz.func98 rfl rfl ?_
    simp -implicitDefEqProofs only [go_sem, Tryz.f98]
    (repeat' (first | ((with_reducible first | refine gon ?_ ?_ | refine gos ?_ ?_ | refine cdn ?_ ?_ | refine cds ?_ ?_ | refine gpn ?_ ?_ | refine gps ?_ ?_) <;> intro h <;> (try simp only [dt, df, gi, gt] at h) <;> try simp -implicitDefEqProofs only [go_sem, *]) | ((with_reducible refine And.intro ?_ ?_); (· first | omega | (simp only [List.length_take]; omega)); try simp -implicitDefEqProofs only [go_sem, *]) | ((with_reducible refine enter_pu (c1) ?_ ?_ ?_); (· rfl); (· rfl); try simp -implicitDefEqProofs only [go_sem, *])))
    exact fin_z
  clear hok c1
  refine fn_of Tryz.func45 rfl rfl ?_
  simp -implicitDefEqProofs only [go_sem, Tryz.f45]
  refine enter_see c2 (.cons _ _ _ _ (see_same rfl) (.cons _ _ _ _ (see_same rfl) (.cons _ _ _ _ (see_arg (.clo _ _ _ (.cons _ _ _ _ (.ref _ _ _ _ _ _ rfl rfl rfl Nat.one_pos Nat.one_pos (.cons _ _ _ _ (.same _ rfl) .nil) (by simp [iD, D.scalar])) .nil))) .nil))) rfl (fun o ho => by cases ho) ?_
  simp -implicitDefEqProofs only [go_sem, shS, List.map_nil]
  exact fin_z
def doneE (e : Eng) (tx : Int) : Eng × Bool := if okE e = true then e.done tx else (zeroE, false)
theorem EndDoneI_fn (e : Eng) (tx : Int) (hs : e.small) : Fn1 Tryz.prog 45 [eA e, I tx] (.tup [eA (doneE e tx).1, Bo (doneE e tx).2]) := by
  unfold doneE
  rcases hok : okE e with _ | _
  · rw [if_neg (by simp)]
    exact fn1_of_own (EndDoneI_none e tx hok hs) see_zA
  · rw [if_pos rfl, don_eq (inv_of_ok hok)]
    exact fn1_of_own (EndDoneI_own e tx hok hs) (see_dR _)
theorem EndDoneS_fn (e : Eng) (tx : Int) (h : e.small) : Fn1 Tryz.prog 44 [eA e, I tx] (.tup [eA (doneE e tx).1, Bo (doneE e tx).2]) := by
  have c1 := okS e h
  refine fn1_of Tryz.func44 rfl rfl ?_
  unfold doneE
  rcases hok : okE e with _ | _
  · rw [if_neg (by simp)]
    rw [hok] at c1
    simp -implicitDefEqProofs only [go_sem, Tryz.f44]
    (repeat' (first | ((with_reducible first | refine gon ?_ ?_ | refine gos ?_ ?_ | refine cdn ?_ ?_ | refine cds ?_ ?_ | refine gpn ?_ ?_ | refine gps ?_ ?_) <;> intro h <;> (try simp only [dt, df, gi, gt] at h) <;> try simp -implicitDefEqProofs only [go_sem, *]) | ((with_reducible refine And.intro ?_ ?_); (· first | omega | (simp only [List.length_take]; omega)); try simp -implicitDefEqProofs only [go_sem, *]) | ((with_reducible refine enter_pu (c1) ?_ ?_ ?_); (· rfl); (· rfl); try simp -implicitDefEqProofs only [go_sem, *])))
    exact fin_drawn rd_ez ⟨⟨rfl, rfl⟩, rfl⟩
  rw [if_pos rfl]
  rw [hok] at c1
  have hi := inv_of_ok hok
  have hi2 := done_inv hi tx
  have c2 := l11Copy_c e hi.disk.sz hi.mem.sz (by have := hi.len; omega)
  have c3 := l13Done_c e tx hi
  have ha := hi2.disk.len
  have hb := hi2.mem.len
  generalize e.done tx = q at c3 ha hb ⊢
  obtain ⟨⟨qa, qb, qc, qs, qd⟩, b⟩ := q
  simp only at c3 ha hb ⊢
  clear hok hi hi2
  simp -implicitDefEqProofs only [go_sem, Tryz.f44]
  (repeat' (first | ((with_reducible first | refine gon ?_ ?_ | refine gos ?_ ?_ | refine cdn ?_ ?_ | refine cds ?_ ?_ | refine gpn ?_ ?_ | refine gps ?_ ?_) <;> intro h <;> (try simp only [dt, df, gi, gt] at h) <;> try simp -implicitDefEqProofs only [go_sem, *]) | ((with_reducible refine And.intro ?_ ?_); (· first | omega | (simp only [List.length_take]; omega)); try simp -implicitDefEqProofs only [go_sem, *]) | first | ((with_reducible refine enter_pu (c1) ?_ ?_ ?_); (· rfl); (· rfl); try simp -implicitDefEqProofs only [go_sem, *]) | ((with_reducible refine enter_fn (c2) ?_ ?_); (· rfl); try simp -implicitDefEqProofs only [go_sem, *]) | ((with_reducible refine enter_at1 [2, 3] (M2 := []) (c3) (by decide) ?_ ?_ rfl ?_); (· repeat (first | exact Keeps.nil | (refine Keeps.cons _ _ _ _ _ rfl rfl ?_ ?_; (· first | exact a2_p _ _ | exact a2_1 rfl | exact a2_I _ _)))); (· repeat (first | exact All2.nil | (refine All2.cons _ _ _ _ ?_ ?_; (· first | exact rnT_eX rfl rfl | exact rnT_prim | exact rnT_sl | exact rnT_ref rfl | exact rnT_agg rfl | exact rnT_own rfl | exact rnT_eX5 rfl rfl)))); try simp -implicitDefEqProofs only [go_sem, *])))
  all_goals exact fin_drawn (rd_oX rfl rfl ha hb) ⟨⟨rfl, rfl⟩, rfl⟩
end Go.Proofs.YtagjgjhkdihodaaGreat.Am
end
section
set_option linter.unusedVariables false
set_option linter.unusedSimpArgs false
set_option maxRecDepth 100000
set_option maxHeartbeats 8000000
namespace Go.Proofs.YtagjgjhkdihodaaGreat.Am
open Go Go.RowKit Go.Proofs
attribute [local go_sem_proc] Nat.reduceAdd Nat.reduceSub Nat.reduceMul Nat.reduceLT Nat.reduceLeDiff Nat.reduceEqDiff Int.reduceBEq Int.reduceBNe Int.reduceNeg Int.reduceSub Int.reduceLE Int.reduceLT
attribute [local go_sem_proc ↓] reduceIte
attribute [local congr] opsP_congr codeP_congr AWP_congr afterR_congr preP_congr afterPre_congr gPre_congr gOps_congr condP_congr stepE_congr
attribute [local go_sem] ty_int ty_bool ty_str ty_u8 ty_ints ty_bytes ty_page ty_pages ty_lpage ty_lpages ty_rec ty_recs ty_lrec ty_lrecs ty_eng ty_leng
attribute [local go_sem] true_and and_true beq_true' beq_false' toNat_cast Int.natCast_nonneg Bool.not_not Bool.not_true Bool.not_false decide_true decide_false Bool.or_false Bool.false_or Bool.or_true Bool.true_or Bool.and_false Bool.false_and Nat.zero_add Int.toNat_of_nonneg wrap_succ wrap_m1 wrap_nat succ_m1 cast0 succ_pos' succ_ne' succ_bne' ge_iff_le gt_iff_lt if_true if_false
attribute [local go_sem] slt_r slt_I slt_p
theorem EngineWriteI_own (e : Eng) (page : Int) (hk : okE e = true ∧ e.down = false ∧ isIn page 0 4 = true) (h : e.small) : Fn Tryz.prog 17 [eA e, I page] (fun r S => r = dR (writeE e page) ∧ S = dS 0 (writeE e page).1) := by
  have hf : writeE e page = (e.write page, true) := by unfold writeE; rw [if_pos hk]
  rw [hf]
  obtain ⟨hok, hd, hin⟩ := hk
  have hi := inv_of_ok hok
  have c1 := okI e h
  rw [hok] at c1
  have c3 := isPage_fn page
  rw [hin] at c3
  obtain ⟨k, hk, rfl⟩ : ∃ k : Nat, k < 5 ∧ page = (k : Int) := page_nat (by unfold isIn at hin; simpa using hin)
  have c2 := copiedE_deep e hi.disk.sz hi.mem.sz (by have := hi.len; omega)
  have c4 := afn1_weak (M2 := M13) (writeD e k hk hi.disk.sz hi.mem.sz) (by simp; omega)
  have hd5 := hi.disk.len
  have hm5 := hi.mem.len
  clear hok hi hf hin
  obtain ⟨ea, eb, ec, es, ed⟩ := e
  simp only at hd hd5 hm5
  subst hd
  refine fn_of Tryz.func17 rfl rfl ?_
  simp -implicitDefEqProofs only [go_sem, Tryz.f17]
  (repeat' (first | ((with_reducible first | refine gon ?_ ?_ | refine gos ?_ ?_ | refine cdn ?_ ?_ | refine cds ?_ ?_ | refine gpn ?_ ?_ | refine gps ?_ ?_) <;> intro h <;> (try simp only [dt, df, gi, gt] at h) <;> try simp -implicitDefEqProofs only [go_sem, *]) | ((with_reducible refine And.intro ?_ ?_); (· first | omega | (simp only [List.length_take]; omega)); try simp -implicitDefEqProofs only [go_sem, *]) | first | ((with_reducible refine enter_pu (c1) ?_ ?_ ?_); (· rfl); (· rfl); try simp -implicitDefEqProofs only [go_sem, *]) | ((with_reducible refine enter_pu (c3) ?_ ?_ ?_); (· rfl); (· rfl); try simp -implicitDefEqProofs only [go_sem, *])))
  refine enter_fnE 2 8 14 rfl (by simp only; omega) (by simp only; omega) c2 rfl ?_
  intro A hA
  rw [dS_13 hd5 hm5] at hA
  subst hA
  simp only [s13, dV, hd5, hm5, List.cons_append, List.nil_append]
  simp -implicitDefEqProofs only [go_sem, true_and]
  refine enter_midM 2 (A := [_, _]) (X0 := sD ⟨ea, eb, ec, es, false⟩) (X1 := sD (Eng.write ⟨ea, eb, ec, es, false⟩ (k : Int))) (B := []) (args' := [.ref 13 5 0 0, I (k : Int)]) [2, 3, 4, 5, 6, 7, 8, 9, 10, 11, 12, 13, 14] c4 (by rw [sh_sD]; rfl) rfl rfl (cl_sD hd5 hm5) (cl_sD (by show (List.set _ _ _).length = 5; rw [List.length_set]; exact hd5) hm5) rfl rfl rfl (by rw [sD_len]; decide) rfl rfl rfl ?_
  rw [sh_sD]
  simp only [s13, scT, List.cons_append, List.nil_append]
  have hs15 : ∀ k, AV.sc [2, 3, 4, 5, 6, 7, 8, 9, 10, 11, 12, 13, 14] (.ref 15 5 0 k) = .ref 15 5 0 k := fun k => rfl
  have hs1 : ∀ k, AV.sc [2, 3, 4, 5, 6, 7, 8, 9, 10, 11, 12, 13, 14] (.ref 1 5 0 k) = .ref 1 5 0 k := fun k => rfl
  simp -implicitDefEqProofs only [go_sem, hs15, hs1]
  exact fin_dE5 (Eng.write ⟨ea, eb, ec, es, false⟩ (k : Int)) (by show (List.set _ _ _).length = 5; rw [List.length_set]; exact hd5) hm5
theorem EngineWriteI_none (e : Eng) (page : Int) (hk : ¬ (okE e = true ∧ e.down = false ∧ isIn page 0 4 = true)) (hs : e.small) : Fn Tryz.prog 17 [eA e, I page] (fun r S => r = .tup [zA, Bo false] ∧ S = []) := by
  obtain ⟨ea, eb, ec, es, ed⟩ := e
  have c1 := okI _ hs
  have c3 := isPage_fn page
  simp only at hk
  refine fn_of Tryz.func17 rfl rfl ?_
  rcases hok : okE ⟨ea, eb, ec, es, ed⟩ with _ | _
  · rw [hok] at c1
    simp -implicitDefEqProofs only [go_sem, Tryz.f17]
    (repeat' (first | ((with_reducible first | refine gon ?_ ?_ | refine gos ?_ ?_ | refine cdn ?_ ?_ | refine cds ?_ ?_ | refine gpn ?_ ?_ | refine gps ?_ ?_) <;> intro h <;> (try simp only [dt, df, gi, gt] at h) <;> try simp -implicitDefEqProofs only [go_sem, *]) | ((with_reducible refine And.intro ?_ ?_); (· first | omega | (simp only [List.length_take]; omega)); try simp -implicitDefEqProofs only [go_sem, *]) | first | ((with_reducible refine enter_pu (c1) ?_ ?_ ?_); (· rfl); (· rfl); try simp -implicitDefEqProofs only [go_sem, *]) | ((with_reducible refine enter_pu (c3) ?_ ?_ ?_); (· rfl); (· rfl); try simp -implicitDefEqProofs only [go_sem, *])))
    all_goals exact fin_z
  · rw [hok] at c1 hk
    rcases ed with _ | _
    · rcases hin : isIn page 0 4 with _ | _
      · rw [hin] at c3
        simp -implicitDefEqProofs only [go_sem, Tryz.f17]
        (repeat' (first | ((with_reducible first | refine gon ?_ ?_ | refine gos ?_ ?_ | refine cdn ?_ ?_ | refine cds ?_ ?_ | refine gpn ?_ ?_ | refine gps ?_ ?_) <;> intro h <;> (try simp only [dt, df, gi, gt] at h) <;> try simp -implicitDefEqProofs only [go_sem, *]) | ((with_reducible refine And.intro ?_ ?_); (· first | omega | (simp only [List.length_take]; omega)); try simp -implicitDefEqProofs only [go_sem, *]) | first | ((with_reducible refine enter_pu (c1) ?_ ?_ ?_); (· rfl); (· rfl); try simp -implicitDefEqProofs only [go_sem, *]) | ((with_reducible refine enter_pu (c3) ?_ ?_ ?_); (· rfl); (· rfl); try simp -implicitDefEqProofs only [go_sem, *])))
        all_goals exact fin_z
      · exact absurd ⟨rfl, rfl, hin⟩ hk
    · simp -implicitDefEqProofs only [go_sem, Tryz.f17]
      (repeat' (first | ((with_reducible first | refine gon ?_ ?_ | refine gos ?_ ?_ | refine cdn ?_ ?_ | refine cds ?_ ?_ | refine gpn ?_ ?_ | refine gps ?_ ?_) <;> intro h <;> (try simp only [dt, df, gi, gt] at h) <;> try simp -implicitDefEqProofs only [go_sem, *]) | ((with_reducible refine And.intro ?_ ?_); (· first | omega | (simp only [List.length_take]; omega)); try simp -implicitDefEqProofs only [go_sem, *]) | first | ((with_reducible refine enter_pu (c1) ?_ ?_ ?_); (· rfl); (· rfl); try simp -implicitDefEqProofs only [go_sem, *]) | ((with_reducible refine enter_pu (c3) ?_ ?_ ?_); (· rfl); (· rfl); try simp -implicitDefEqProofs only [go_sem, *])))
      all_goals exact fin_z
theorem write_mid {e : Eng} {p : Int} (hm : e.mid) : (e.write p).mid := by
  refine ⟨by simp only [Eng.write, List.length_set]; exact hm.disk, hm.mem, hm.log, fun q hq => ?_, hm.mv⟩
  simp only [Eng.write] at hq
  rcases List.mem_or_eq_of_mem_set hq with h | rfl
  · exact hm.dv q h
  · simp only [at', List.getD]
    rcases h : e.mem[p.toNat]? with _ | q
    · exact Nat.zero_le _
    · exact hm.mv q (List.mem_of_getElem? h)
end Go.Proofs.YtagjgjhkdihodaaGreat.Am
end
section
set_option linter.unusedVariables false
set_option linter.unusedSimpArgs false
set_option maxRecDepth 100000
set_option maxHeartbeats 8000000
namespace Go.Proofs.YtagjgjhkdihodaaGreat.Am
open Go Go.RowKit Go.Proofs
attribute [local go_sem_proc] Nat.reduceAdd Nat.reduceSub Nat.reduceMul Nat.reduceLT Nat.reduceLeDiff Nat.reduceEqDiff Int.reduceBEq Int.reduceBNe Int.reduceNeg Int.reduceSub Int.reduceLE Int.reduceLT
attribute [local go_sem_proc ↓] reduceIte
attribute [local congr] opsP_congr codeP_congr AWP_congr afterR_congr preP_congr afterPre_congr gPre_congr gOps_congr condP_congr stepE_congr
attribute [local go_sem] ty_int ty_bool ty_str ty_u8 ty_ints ty_bytes ty_page ty_pages ty_lpage ty_lpages ty_rec ty_recs ty_lrec ty_lrecs ty_eng ty_leng
attribute [local go_sem] true_and and_true beq_true' beq_false' toNat_cast Int.natCast_nonneg Bool.not_not Bool.not_true Bool.not_false decide_true decide_false Bool.or_false Bool.false_or Bool.or_true Bool.true_or Bool.and_false Bool.false_and Nat.zero_add Int.toNat_of_nonneg wrap_succ wrap_m1 wrap_nat succ_m1 cast0 succ_pos' succ_ne' succ_bne' ge_iff_le gt_iff_lt if_true if_false
attribute [local go_sem] slt_r slt_I slt_p
theorem FnExactEngineForce_ok (e g : Eng) (b : Bool) (hs : e.small) (h0 : ¬ szE e 1048576 < 0) (hg : g.mid)
    (cS : Fn1 Tryz.prog 41 [eA e] (.tup [eA g, Bo b])) (cI : Fn1 Tryz.prog 42 [eA e] (.tup [eA g, Bo b]))
    (cIo : Fn Tryz.prog 42 [eA e] (fun r S => r = dR (g, b) ∧ S = dS 0 g)) : Fn1 Tryz.prog 8 [eA e] (Bo true) := by
  have hm : e.mid := mid_of h0
  have cz := szEngine_fn e 1048576 (by omega) hs
  have ct := toEngine_fn e hm
  have cto := toEngine_own e hm
  have ceg := eqEngine_fn g g hg.small
  rw [sameE_refl] at ceg
  have cee := eqEngine_fn e e hs
  rw [sameE_refl] at cee
  refine fn1_of Tryz.func8 rfl rfl ?_
  simp -implicitDefEqProofs only [go_sem, Tryz.f8]
  (repeat' (first | ((with_reducible first | refine gon ?_ ?_ | refine gos ?_ ?_ | refine cdn ?_ ?_ | refine cds ?_ ?_ | refine gpn ?_ ?_ | refine gps ?_ ?_) <;> intro h <;> (try simp only [dt, df, gi, gt] at h) <;> try simp -implicitDefEqProofs only [go_sem, *]) | ((with_reducible refine And.intro ?_ ?_); (· first | omega | (simp only [List.length_take]; omega)); try simp -implicitDefEqProofs only [go_sem, *]) | ((with_reducible refine enter_pu (cz) ?_ ?_ ?_); (· rfl); (· rfl); try simp -implicitDefEqProofs only [go_sem, *])))
  ((with_reducible refine enter_pu (ct) ?_ ?_ ?_); (· rfl); (· rfl); try simp -implicitDefEqProofs only [go_sem, *])
  (repeat' (first | ((with_reducible first | refine gon ?_ ?_ | refine gos ?_ ?_ | refine cdn ?_ ?_ | refine cds ?_ ?_ | refine gpn ?_ ?_ | refine gps ?_ ?_) <;> intro h <;> (try simp only [dt, df, gi, gt] at h) <;> try simp -implicitDefEqProofs only [go_sem, *]) | ((with_reducible refine And.intro ?_ ?_); (· first | omega | (simp only [List.length_take]; omega)); try simp -implicitDefEqProofs only [go_sem, *]) | ((with_reducible refine enter_pu (cS) ?_ ?_ ?_); (· rfl); (· rfl); try simp -implicitDefEqProofs only [go_sem, *])))
  obtain ⟨n1, hn1⟩ : ∃ n1, 2 + (1 + e.disk.length) = n1 := ⟨_, rfl⟩
  obtain ⟨n2, hn2⟩ : ∃ n2, 2 + (2 + e.disk.length + e.mem.length) = n2 := ⟨_, rfl⟩
  refine enter_fnE 2 n1 n2 rfl hn1 hn2 cto rfl ?_
  intro A hA
  obtain ⟨n, hn⟩ : ∃ n, A.length = n := ⟨_, rfl⟩
  have a0 : ∀ T, getO (A ++ T) 0 = some ⟨5, [eA e]⟩ := fun T => by rw [hA]; rfl
  have a1 : ∀ T, getO (A ++ T) 1 = some ⟨5, [eA g]⟩ := fun T => by rw [hA]; rfl
  have ax : ∀ (o : AObj) T, getO (A ++ some o :: T) n = some o := fun o T => by rw [← hn]; exact getO_app
  have ay : ∀ (o x : Option AObj) T, (A ++ o :: T).set n x = A ++ x :: T := fun o x T => by rw [← hn]; exact set_app
  replace hA := Hid.mk' hA
  simp -implicitDefEqProofs only [go_sem, List.append_assoc, hn, ax, ay, a0, a1]
  have hHx : ∀ T, Has (A ++ T) 2 (dS 2 e) := fun T => by
    rw [hA]
    exact Has.mid rfl
  obtain ⟨m1, hm1⟩ : ∃ m1, n + 1 + (1 + g.disk.length) = m1 := ⟨_, rfl⟩
  obtain ⟨m2, hm2⟩ : ∃ m2, n + 1 + (2 + g.disk.length + g.mem.length) = m2 := ⟨_, rfl⟩
  refine enter_seeE (n + 1) m1 m2 (by rw [List.length_append, hn]; rfl) hm1 hm2 cIo (.cons _ _ _ _ (see_dV hn1 hn2 (hHx _)) .nil) ?_
  intro B hB
  obtain ⟨bl, hbl⟩ : ∃ bl, B.length = bl := ⟨_, rfl⟩
  replace hB := Hid.mk' hB
  have bx : ∀ (c : Option AObj) (o : AObj) T, getO (A ++ c :: (B ++ some o :: T)) (n + (bl + 1)) = some o := fun c o T => getO_app2 hn hbl
  have by' : ∀ (c o x : Option AObj) T, (A ++ c :: (B ++ o :: T)).set (n + (bl + 1)) x = A ++ c :: (B ++ x :: T) := fun c o x T => set_app2 hn hbl
  have bnn : (b == b) = true := by cases b <;> rfl
  simp -implicitDefEqProofs only [go_sem, List.append_assoc, hn, hbl, ax, ay, a0, a1, bx, by']
  have seeG : ∀ c T, Sees (A ++ c :: (B ++ T)) true (dV (n + 1) m1 m2 g) (eA g) := fun c T => by
    have h : B = dS (n + 1) g := hB
    refine see_dV hm1 hm2 ?_
    rw [← h]
    exact has_app2 hn
  refine enter_see1 ceg (.cons _ _ _ _ (seeG _ _) (.cons _ _ _ _ (see_same rfl) .nil)) rfl rfl ?_
  simp -implicitDefEqProofs only [go_sem, ax, ay, a0, a1, bx, by', bnn]
  refine cp_drawG (id := 10) 5 (fun S => getO S n = some ⟨5, [dV 2 n1 n2 e]⟩ ∧ getO S 0 = some ⟨5, [eA e]⟩) mixed rfl ?_
  (refine expG_get 0 (dV 2 n1 n2 e) rfl ?_ ?_ ⟨ax _ _, a0 _⟩ ?_ ?_); (· decide +kernel); (· decide +kernel); (· (rintro S ⟨hS0, hS1⟩; simp -implicitDefEqProofs only [go_sem, hS0, hS1, *])); try simp -implicitDefEqProofs only [go_sem, List.set_cons_succ, List.set_cons_zero]
  (refine expG_get 1 (eA e) rfl ?_ ?_ ⟨ax _ _, a0 _⟩ ?_ ?_); (· decide +kernel); (· decide +kernel); (· (rintro S ⟨hS0, hS1⟩; simp -implicitDefEqProofs only [go_sem, hS0, hS1, *])); try simp -implicitDefEqProofs only [go_sem, List.set_cons_succ, List.set_cons_zero]
  ((with_reducible refine expG_one 2 ?_ ?_); (· decide +kernel); try simp -implicitDefEqProofs only [go_sem, *])
  ((with_reducible refine enter_pu (ct) ?_ ?_ ?_); (· rfl); (· rfl); try simp -implicitDefEqProofs only [go_sem, *])
  ((with_reducible refine expG_one 3 ?_ ?_); (· decide +kernel); try simp -implicitDefEqProofs only [go_sem, *])
  refine enter_see1 cee (.cons _ _ _ _ (see_dV hn1 hn2 (hHx _)) (.cons _ _ _ _ (see_same rfl) .nil)) rfl rfl ?_
  simp -implicitDefEqProofs only [go_sem, ax, a0]
  (repeat' (first | ((with_reducible first | refine gon ?_ ?_ | refine gos ?_ ?_ | refine cdn ?_ ?_ | refine cds ?_ ?_ | refine gpn ?_ ?_ | refine gps ?_ ?_) <;> intro h <;> (try simp only [dt, df, gi, gt] at h) <;> try simp -implicitDefEqProofs only [go_sem, *]) | ((with_reducible refine And.intro ?_ ?_); (· first | omega | (simp only [List.length_take]; omega)); try simp -implicitDefEqProofs only [go_sem, *]) | first | ((with_reducible refine expG_one 4 ?_ ?_); (· decide +kernel); try simp -implicitDefEqProofs only [go_sem, *]) | ((with_reducible refine expG_end ?_ ?_); (· decide +kernel); try simp -implicitDefEqProofs only [go_sem, *])))
  refine enter_mid 2 (A := [some ⟨5, [eA e]⟩, some ⟨5, [eA g]⟩]) (X0 := dS 0 e) (X1 := dS 0 (markE 1 e)) (B := some ⟨5, [dV 2 n1 n2 e]⟩ :: (B ++ [some ⟨5, [dV (n + 1) m1 m2 g]⟩])) (args' := [dE 0 e, I 1]) (markEngine_c e hm) ?_ rfl dS_mark_len (by rw [dS_len]; exact cl_dS (by omega)) ?_ rfl ?_ ?_ ?_
  · rw [sh_dS, hA]
  · rw [← dS_mark_len (k := 1), dS_len]
    exact cl_dS (by omega)
  · rw [List.map_cons, sh_dE, Nat.add_zero, ← dV_eq hn1 hn2, List.map_cons, List.map_nil, sh_prim]
  · simp only [List.all_cons, List.all_nil, Bool.and_true]
    rw [dS_len]
    exact Bool.and_eq_true_iff.2 ⟨cl_dE (by omega), rfl⟩
  obtain ⟨A2, hA2⟩ : ∃ A2, [some ⟨5, [eA e]⟩, some ⟨5, [eA g]⟩] ++ shS 2 (dS 0 (markE 1 e)) = A2 := ⟨_, rfl⟩
  have hn' : A2.length = n := by
    have h1 : A = [some ⟨5, [eA e]⟩, some ⟨5, [eA g]⟩] ++ dS 2 e := hA
    rw [← hA2, ← hn, h1, List.length_append, List.length_append, shS_len, dS_mark_len, dS_len, dS_len]
  have a0' : ∀ T, getO (A2 ++ T) 0 = some ⟨5, [eA e]⟩ := fun T => by rw [← hA2]; rfl
  have a1' : ∀ T, getO (A2 ++ T) 1 = some ⟨5, [eA g]⟩ := fun T => by rw [← hA2]; rfl
  have ax' : ∀ (o : AObj) T, getO (A2 ++ some o :: T) n = some o := fun o T => by rw [← hn']; exact getO_app
  have k1 : ¬ (1 + (cntE e : Int) < 0) := by omega
  have k2 : ¬ (1 + (cntE g : Int) < 0) := by omega
  have k3 : ((1 + (cntE g : Int)) != (1 + (cntE g : Int))) = false := by simp
  have hh := heldEngine_fn g hg
  have bx' : ∀ (c : Option AObj) (o : AObj) T, getO (A2 ++ c :: (B ++ some o :: T)) (n + (bl + 1)) = some o := fun c o T => getO_app2 hn' hbl
  have seeG' : ∀ c T, Sees (A2 ++ c :: (B ++ T)) true (dV (n + 1) m1 m2 g) (eA g) := fun c T => by
    have h : B = dS (n + 1) g := hB
    refine see_dV hm1 hm2 ?_
    rw [← h]
    exact has_app2 hn'
  rw [hA2]
  clear hA2
  simp -implicitDefEqProofs only [go_sem, a0', a1', ax', bx', k1]
  refine enter_see1 ceg (.cons _ _ _ _ (seeG' _ _) (.cons _ _ _ _ (see_same rfl) .nil)) rfl rfl ?_
  simp -implicitDefEqProofs only [go_sem, a0', a1', ax', bx', bnn]
  (repeat' (first | ((with_reducible first | refine gon ?_ ?_ | refine gos ?_ ?_ | refine cdn ?_ ?_ | refine cds ?_ ?_ | refine gpn ?_ ?_ | refine gps ?_ ?_) <;> intro h <;> (try simp only [dt, df, gi, gt] at h) <;> try simp -implicitDefEqProofs only [go_sem, *]) | ((with_reducible refine And.intro ?_ ?_); (· first | omega | (simp only [List.length_take]; omega)); try simp -implicitDefEqProofs only [go_sem, *]) | fail))
  refine enter_mid (n + 1) (A := A2 ++ [some ⟨5, [dV 2 n1 n2 e]⟩]) (X0 := dS 0 g) (X1 := dS 0 (markE 1 g)) (B := [some ⟨5, [dV (n + 1) m1 m2 g]⟩]) (args' := [dE 0 g, I 1]) (markEngine_c g hg) ?_ (by rw [List.length_append, hn']; rfl) dS_mark_len (by rw [dS_len]; exact cl_dS (by omega)) ?_ rfl ?_ ?_ ?_
  · have h : B = dS (n + 1) g := hB
    rw [sh_dS, Nat.add_zero, ← h, List.append_assoc, List.append_assoc]
    rfl
  · rw [← dS_mark_len (k := 1), dS_len]
    exact cl_dS (by omega)
  · rw [List.map_cons, sh_dE, Nat.add_zero, ← dV_eq hm1 hm2, List.map_cons, List.map_nil, sh_prim]
  · simp only [List.all_cons, List.all_nil, Bool.and_true]
    rw [dS_len]
    exact Bool.and_eq_true_iff.2 ⟨cl_dE (by omega), rfl⟩
  obtain ⟨B2, hB2⟩ : ∃ B2, shS (n + 1) (dS 0 (markE 1 g)) = B2 := ⟨_, rfl⟩
  have hbl' : B2.length = bl := by
    have h : B = dS (n + 1) g := hB
    rw [← hB2, ← hbl, h, shS_len, dS_mark_len, dS_len, dS_len]
  have bx2 : ∀ (c : Option AObj) (o : AObj) T, getO (A2 ++ c :: (B2 ++ some o :: T)) (n + (bl + 1)) = some o := fun c o T => getO_app2 hn' hbl'
  have see2 : ∀ c T, Sees (A2 ++ c :: (B2 ++ T)) true (dV (n + 1) m1 m2 g) (eA (markE 1 g)) := fun c T => by
    have h : dS (n + 1) (markE 1 g) = B2 := by rw [← hB2, sh_dS, Nat.add_zero]
    rw [dV_eq hm1 hm2, ← dE_mark (k := 1)]
    refine see_dE ?_
    rw [h]
    exact has_app2 hn'
  rw [hB2]
  clear hB2
  simp -implicitDefEqProofs only [go_sem, List.append_assoc, a0', a1', ax', bx2, k2]
  refine enter_see1 hh (.cons _ _ _ _ (see2 _ _) (.cons _ _ _ _ (see_same rfl) .nil)) rfl rfl ?_
  simp -implicitDefEqProofs only [go_sem, a0', a1', ax', bx2, k2, k3]
  have cx2 : ∀ (c d : Option AObj) (o : AObj) T, getO (A2 ++ c :: (B2 ++ d :: some o :: T)) (n + (bl + 1 + 1)) = some o := fun c d o T => getO_app3 hn' hbl'
  have cy2 : ∀ (c d o x : Option AObj) T, (A2 ++ c :: (B2 ++ d :: o :: T)).set (n + (bl + 1 + 1)) x = A2 ++ c :: (B2 ++ d :: x :: T) := fun c d o x T => set_app3 hn' hbl'
  ((with_reducible refine enter_pu (ct) ?_ ?_ ?_); (· rfl); (· rfl); try simp -implicitDefEqProofs only [go_sem, *])
  ((with_reducible refine enter_pu (cI) ?_ ?_ ?_); (· rfl); (· rfl); try simp -implicitDefEqProofs only [go_sem, *])
  simp -implicitDefEqProofs only [go_sem, List.append_assoc, a0', a1', ax', bx2, k2, k3, cx2, cy2, bnn]
  (repeat' (first | ((with_reducible first | refine gon ?_ ?_ | refine gos ?_ ?_ | refine cdn ?_ ?_ | refine cds ?_ ?_ | refine gpn ?_ ?_ | refine gps ?_ ?_) <;> intro h <;> (try simp only [dt, df, gi, gt] at h) <;> try simp -implicitDefEqProofs only [go_sem, *]) | ((with_reducible refine And.intro ?_ ?_); (· first | omega | (simp only [List.length_take]; omega)); try simp -implicitDefEqProofs only [go_sem, *]) | ((with_reducible refine enter_pu (ceg) ?_ ?_ ?_); (· rfl); (· rfl); try simp -implicitDefEqProofs only [go_sem, *])))
  refine enter_see1 hh (.cons _ _ _ _ (see2 _ _) (.cons _ _ _ _ (see_same rfl) .nil)) rfl rfl ?_
  simp -implicitDefEqProofs only [go_sem, k2, k3]
  (repeat' (first | ((with_reducible first | refine gon ?_ ?_ | refine gos ?_ ?_ | refine cdn ?_ ?_ | refine cds ?_ ?_ | refine gpn ?_ ?_ | refine gps ?_ ?_) <;> intro h <;> (try simp only [dt, df, gi, gt] at h) <;> try simp -implicitDefEqProofs only [go_sem, *]) | ((with_reducible refine And.intro ?_ ?_); (· first | omega | (simp only [List.length_take]; omega)); try simp -implicitDefEqProofs only [go_sem, *]) | fail))
  all_goals exact fin_pu rfl rfl
theorem FnExactEngineForce_no (e g : Eng) (b : Bool) (hs : e.small) (h0 : ¬ szE e 1048576 < 0) (hgz : g = zeroE)
    (cS : Fn1 Tryz.prog 41 [eA e] (.tup [eA g, Bo b])) (cI : Fn1 Tryz.prog 42 [eA e] (.tup [eA g, Bo b]))
    (cIo : Fn Tryz.prog 42 [eA e] (fun r S => r = .tup [zA, Bo b] ∧ S = [])) : Fn1 Tryz.prog 8 [eA e] (Bo true) := by
  have hg : g.mid := by rw [hgz]; exact zeroE_mid
  replace hgz := Hid.mk' hgz
  have hm : e.mid := mid_of h0
  have cz := szEngine_fn e 1048576 (by omega) hs
  have ct := toEngine_fn e hm
  have cto := toEngine_own e hm
  have ceg := eqEngine_fn g g hg.small
  rw [sameE_refl] at ceg
  have cee := eqEngine_fn e e hs
  rw [sameE_refl] at cee
  refine fn1_of Tryz.func8 rfl rfl ?_
  simp -implicitDefEqProofs only [go_sem, Tryz.f8]
  (repeat' (first | ((with_reducible first | refine gon ?_ ?_ | refine gos ?_ ?_ | refine cdn ?_ ?_ | refine cds ?_ ?_ | refine gpn ?_ ?_ | refine gps ?_ ?_) <;> intro h <;> (try simp only [dt, df, gi, gt] at h) <;> try simp -implicitDefEqProofs only [go_sem, *]) | ((with_reducible refine And.intro ?_ ?_); (· first | omega | (simp only [List.length_take]; omega)); try simp -implicitDefEqProofs only [go_sem, *]) | ((with_reducible refine enter_pu (cz) ?_ ?_ ?_); (· rfl); (· rfl); try simp -implicitDefEqProofs only [go_sem, *])))
  ((with_reducible refine enter_pu (ct) ?_ ?_ ?_); (· rfl); (· rfl); try simp -implicitDefEqProofs only [go_sem, *])
  (repeat' (first | ((with_reducible first | refine gon ?_ ?_ | refine gos ?_ ?_ | refine cdn ?_ ?_ | refine cds ?_ ?_ | refine gpn ?_ ?_ | refine gps ?_ ?_) <;> intro h <;> (try simp only [dt, df, gi, gt] at h) <;> try simp -implicitDefEqProofs only [go_sem, *]) | ((with_reducible refine And.intro ?_ ?_); (· first | omega | (simp only [List.length_take]; omega)); try simp -implicitDefEqProofs only [go_sem, *]) | ((with_reducible refine enter_pu (cS) ?_ ?_ ?_); (· rfl); (· rfl); try simp -implicitDefEqProofs only [go_sem, *])))
  obtain ⟨n1, hn1⟩ : ∃ n1, 2 + (1 + e.disk.length) = n1 := ⟨_, rfl⟩
  obtain ⟨n2, hn2⟩ : ∃ n2, 2 + (2 + e.disk.length + e.mem.length) = n2 := ⟨_, rfl⟩
  refine enter_fnE 2 n1 n2 rfl hn1 hn2 cto rfl ?_
  intro A hA
  obtain ⟨n, hn⟩ : ∃ n, A.length = n := ⟨_, rfl⟩
  have a0 : ∀ T, getO (A ++ T) 0 = some ⟨5, [eA e]⟩ := fun T => by rw [hA]; rfl
  have a1 : ∀ T, getO (A ++ T) 1 = some ⟨5, [eA g]⟩ := fun T => by rw [hA]; rfl
  have ax : ∀ (o : AObj) T, getO (A ++ some o :: T) n = some o := fun o T => by rw [← hn]; exact getO_app
  have ay : ∀ (o x : Option AObj) T, (A ++ o :: T).set n x = A ++ x :: T := fun o x T => by rw [← hn]; exact set_app
  replace hA := Hid.mk' hA
  simp -implicitDefEqProofs only [go_sem, List.append_assoc, hn, ax, ay, a0, a1]
  have hHx : ∀ T, Has (A ++ T) 2 (dS 2 e) := fun T => by
    rw [hA]
    exact Has.mid rfl
  refine enter_see cIo (.cons _ _ _ _ (see_dV hn1 hn2 (hHx _)) .nil) rfl (fun o ho => by cases ho) ?_
  have bx : ∀ (c : Option AObj) (o : AObj) T, getO (A ++ c :: some o :: T) (n + 1) = some o := fun c o T => getO_app2 (B := []) hn rfl
  have by' : ∀ (c o x : Option AObj) T, (A ++ c :: o :: T).set (n + 1) x = A ++ c :: x :: T := fun c o x T => set_app2 (B := []) hn rfl
  have bnn : (b == b) = true := by cases b <;> rfl
  simp -implicitDefEqProofs only [go_sem, shS, List.map_nil, List.append_nil, List.append_assoc, hn, ax, ay, a0, a1, bx, by']
  have seeG : ∀ S, Sees S true zA (eA g) := fun S => by rw [hgz]; exact see_z
  refine enter_see1 ceg (.cons _ _ _ _ (seeG _) (.cons _ _ _ _ (see_same rfl) .nil)) rfl rfl ?_
  simp -implicitDefEqProofs only [go_sem, ax, ay, a0, a1, bx, by', bnn]
  refine cp_drawG (id := 10) 5 (fun S => getO S n = some ⟨5, [dV 2 n1 n2 e]⟩ ∧ getO S 0 = some ⟨5, [eA e]⟩) mixed rfl ?_
  (refine expG_get 0 (dV 2 n1 n2 e) rfl ?_ ?_ ⟨ax _ _, a0 _⟩ ?_ ?_); (· decide +kernel); (· decide +kernel); (· (rintro S ⟨hS0, hS1⟩; simp -implicitDefEqProofs only [go_sem, hS0, hS1, *])); try simp -implicitDefEqProofs only [go_sem, List.set_cons_succ, List.set_cons_zero]
  (refine expG_get 1 (eA e) rfl ?_ ?_ ⟨ax _ _, a0 _⟩ ?_ ?_); (· decide +kernel); (· decide +kernel); (· (rintro S ⟨hS0, hS1⟩; simp -implicitDefEqProofs only [go_sem, hS0, hS1, *])); try simp -implicitDefEqProofs only [go_sem, List.set_cons_succ, List.set_cons_zero]
  ((with_reducible refine expG_one 2 ?_ ?_); (· decide +kernel); try simp -implicitDefEqProofs only [go_sem, *])
  ((with_reducible refine enter_pu (ct) ?_ ?_ ?_); (· rfl); (· rfl); try simp -implicitDefEqProofs only [go_sem, *])
  ((with_reducible refine expG_one 3 ?_ ?_); (· decide +kernel); try simp -implicitDefEqProofs only [go_sem, *])
  refine enter_see1 cee (.cons _ _ _ _ (see_dV hn1 hn2 (hHx _)) (.cons _ _ _ _ (see_same rfl) .nil)) rfl rfl ?_
  simp -implicitDefEqProofs only [go_sem, ax, a0]
  (repeat' (first | ((with_reducible first | refine gon ?_ ?_ | refine gos ?_ ?_ | refine cdn ?_ ?_ | refine cds ?_ ?_ | refine gpn ?_ ?_ | refine gps ?_ ?_) <;> intro h <;> (try simp only [dt, df, gi, gt] at h) <;> try simp -implicitDefEqProofs only [go_sem, *]) | ((with_reducible refine And.intro ?_ ?_); (· first | omega | (simp only [List.length_take]; omega)); try simp -implicitDefEqProofs only [go_sem, *]) | first | ((with_reducible refine expG_one 4 ?_ ?_); (· decide +kernel); try simp -implicitDefEqProofs only [go_sem, *]) | ((with_reducible refine expG_end ?_ ?_); (· decide +kernel); try simp -implicitDefEqProofs only [go_sem, *])))
  refine enter_mid 2 (A := [some ⟨5, [eA e]⟩, some ⟨5, [eA g]⟩]) (X0 := dS 0 e) (X1 := dS 0 (markE 1 e)) (B := some ⟨5, [dV 2 n1 n2 e]⟩ :: [some ⟨5, [zA]⟩]) (args' := [dE 0 e, I 1]) (markEngine_c e hm) ?_ rfl dS_mark_len (by rw [dS_len]; exact cl_dS (by omega)) ?_ rfl ?_ ?_ ?_
  · rw [sh_dS, hA]
  · rw [← dS_mark_len (k := 1), dS_len]
    exact cl_dS (by omega)
  · rw [List.map_cons, sh_dE, Nat.add_zero, ← dV_eq hn1 hn2, List.map_cons, List.map_nil, sh_prim]
  · simp only [List.all_cons, List.all_nil, Bool.and_true]
    rw [dS_len]
    exact Bool.and_eq_true_iff.2 ⟨cl_dE (by omega), rfl⟩
  obtain ⟨A2, hA2⟩ : ∃ A2, [some ⟨5, [eA e]⟩, some ⟨5, [eA g]⟩] ++ shS 2 (dS 0 (markE 1 e)) = A2 := ⟨_, rfl⟩
  have hn' : A2.length = n := by
    have h1 : A = [some ⟨5, [eA e]⟩, some ⟨5, [eA g]⟩] ++ dS 2 e := hA
    rw [← hA2, ← hn, h1, List.length_append, List.length_append, shS_len, dS_mark_len, dS_len, dS_len]
  have a0' : ∀ T, getO (A2 ++ T) 0 = some ⟨5, [eA e]⟩ := fun T => by rw [← hA2]; rfl
  have a1' : ∀ T, getO (A2 ++ T) 1 = some ⟨5, [eA g]⟩ := fun T => by rw [← hA2]; rfl
  have ax' : ∀ (o : AObj) T, getO (A2 ++ some o :: T) n = some o := fun o T => by rw [← hn']; exact getO_app
  have k1 : ¬ (1 + (cntE e : Int) < 0) := by omega
  have k2 : ¬ (1 + (cntE g : Int) < 0) := by omega
  have k3 : ((1 + (cntE g : Int)) != (1 + (cntE g : Int))) = false := by simp
  have hh := heldEngine_fn g hg
  have bx' : ∀ (c : Option AObj) (o : AObj) T, getO (A2 ++ c :: some o :: T) (n + 1) = some o := fun c o T => getO_app2 (B := []) hn' rfl
  rw [hA2]
  clear hA2
  simp -implicitDefEqProofs only [go_sem, a0', a1', ax', bx', k1]
  refine enter_see1 ceg (.cons _ _ _ _ (seeG _) (.cons _ _ _ _ (see_same rfl) .nil)) rfl rfl ?_
  simp -implicitDefEqProofs only [go_sem, a0', a1', ax', bx', bnn]
  (repeat' (first | ((with_reducible first | refine gon ?_ ?_ | refine gos ?_ ?_ | refine cdn ?_ ?_ | refine cds ?_ ?_ | refine gpn ?_ ?_ | refine gps ?_ ?_) <;> intro h <;> (try simp only [dt, df, gi, gt] at h) <;> try simp -implicitDefEqProofs only [go_sem, *]) | ((with_reducible refine And.intro ?_ ?_); (· first | omega | (simp only [List.length_take]; omega)); try simp -implicitDefEqProofs only [go_sem, *]) | ((with_reducible refine enter_pu (markZ) ?_ ?_ ?_); (· rfl); (· rfl); try simp -implicitDefEqProofs only [go_sem, *])))
  have e1 : markE 1 g = g := by rw [hgz]; rfl
  have e2 : (1 + (cntE g : Int)) = 1 := by rw [hgz]; rfl
  rw [e1, e2] at hh
  refine enter_see1 hh (.cons _ _ _ _ (seeG _) (.cons _ _ _ _ (see_same rfl) .nil)) rfl rfl ?_
  simp -implicitDefEqProofs only [go_sem, a0', a1', ax', bx']
  (repeat' (first | ((with_reducible first | refine gon ?_ ?_ | refine gos ?_ ?_ | refine cdn ?_ ?_ | refine cds ?_ ?_ | refine gpn ?_ ?_ | refine gps ?_ ?_) <;> intro h <;> (try simp only [dt, df, gi, gt] at h) <;> try simp -implicitDefEqProofs only [go_sem, *]) | ((with_reducible refine And.intro ?_ ?_); (· first | omega | (simp only [List.length_take]; omega)); try simp -implicitDefEqProofs only [go_sem, *]) | fail))
  have cx2 : ∀ (c d : Option AObj) (o : AObj) T, getO (A2 ++ c :: d :: some o :: T) (n + (1 + 1)) = some o := fun c d o T => getO_app3 (B := []) hn' rfl
  have cy2 : ∀ (c d o x : Option AObj) T, (A2 ++ c :: d :: o :: T).set (n + (1 + 1)) x = A2 ++ c :: d :: x :: T := fun c d o x T => set_app3 (B := []) hn' rfl
  ((with_reducible refine enter_pu (ct) ?_ ?_ ?_); (· rfl); (· rfl); try simp -implicitDefEqProofs only [go_sem, *])
  ((with_reducible refine enter_pu (cI) ?_ ?_ ?_); (· rfl); (· rfl); try simp -implicitDefEqProofs only [go_sem, *])
  simp -implicitDefEqProofs only [go_sem, List.append_assoc, a0', a1', ax', bx', cx2, cy2, bnn]
  (repeat' (first | ((with_reducible first | refine gon ?_ ?_ | refine gos ?_ ?_ | refine cdn ?_ ?_ | refine cds ?_ ?_ | refine gpn ?_ ?_ | refine gps ?_ ?_) <;> intro h <;> (try simp only [dt, df, gi, gt] at h) <;> try simp -implicitDefEqProofs only [go_sem, *]) | ((with_reducible refine And.intro ?_ ?_); (· first | omega | (simp only [List.length_take]; omega)); try simp -implicitDefEqProofs only [go_sem, *]) | ((with_reducible refine enter_pu (ceg) ?_ ?_ ?_); (· rfl); (· rfl); try simp -implicitDefEqProofs only [go_sem, *])))
  refine enter_see1 hh (.cons _ _ _ _ (seeG _) (.cons _ _ _ _ (see_same rfl) .nil)) rfl rfl ?_
  simp -implicitDefEqProofs only [go_sem, true_and]
  (repeat' (first | ((with_reducible first | refine gon ?_ ?_ | refine gos ?_ ?_ | refine cdn ?_ ?_ | refine cds ?_ ?_ | refine gpn ?_ ?_ | refine gps ?_ ?_) <;> intro h <;> (try simp only [dt, df, gi, gt] at h) <;> try simp -implicitDefEqProofs only [go_sem, *]) | ((with_reducible refine And.intro ?_ ?_); (· first | omega | (simp only [List.length_take]; omega)); try simp -implicitDefEqProofs only [go_sem, *]) | fail))
  all_goals exact fin_pu rfl rfl
theorem ExactForce_law (e : Eng) (hs : e.small) : Fn1 Tryz.prog 8 [eA e] (Bo true) := by
  by_cases h0 : szE e 1048576 < 0
  · have cz := szEngine_fn e 1048576 (by omega) hs
    refine fn1_of Tryz.func8 rfl rfl ?_
    simp -implicitDefEqProofs only [go_sem, Tryz.f8, h0]
    (repeat' (first | ((with_reducible first | refine gon ?_ ?_ | refine gos ?_ ?_ | refine cdn ?_ ?_ | refine cds ?_ ?_ | refine gpn ?_ ?_ | refine gps ?_ ?_) <;> intro h <;> (try simp only [dt, df, gi, gt] at h) <;> try simp -implicitDefEqProofs only [go_sem, *]) | ((with_reducible refine And.intro ?_ ?_); (· first | omega | (simp only [List.length_take]; omega)); try simp -implicitDefEqProofs only [go_sem, *]) | ((with_reducible refine enter_pu (cz) ?_ ?_ ?_); (· rfl); (· rfl); try simp -implicitDefEqProofs only [go_sem, *])))
    exact fin_pu rfl rfl
  have hm := mid_of h0
  have cS := EngineForceS_fn e hs
  have cI := EngineForceI_fn e hs
  by_cases hk : okE e = true ∧ e.down = false
  · have hf : forceE e = (⟨e.disk, e.mem, e.log, e.log.length, e.down⟩, true) := by unfold forceE; rw [if_pos hk]
    have co := EngineForceI_own e hk.1 hk.2 hs
    rw [hf] at cS cI co
    exact FnExactEngineForce_ok e ⟨e.disk, e.mem, e.log, e.log.length, e.down⟩ true hs h0 ⟨hm.disk, hm.mem, hm.log, hm.dv, hm.mv⟩ cS cI co
  · have hf : forceE e = (zeroE, false) := by unfold forceE; rw [if_neg hk]
    rw [hf] at cS cI
    exact FnExactEngineForce_no e zeroE false hs h0 rfl cS cI (EngineForceI_none e (by
      rcases h1 : okE e with _ | _
      · exact .inl rfl
      · rcases h2 : e.down with _ | _
        · exact absurd ⟨h1, h2⟩ hk
        · exact .inr rfl) hs)
end Go.Proofs.YtagjgjhkdihodaaGreat.Am
end
section
set_option linter.unusedVariables false
set_option linter.unusedSimpArgs false
set_option maxRecDepth 100000
set_option maxHeartbeats 8000000
namespace Go.Proofs.YtagjgjhkdihodaaGreat.Am
open Go Go.RowKit Go.Proofs
attribute [local go_sem_proc] Nat.reduceAdd Nat.reduceSub Nat.reduceMul Nat.reduceLT Nat.reduceLeDiff Nat.reduceEqDiff Int.reduceBEq Int.reduceBNe Int.reduceNeg Int.reduceSub Int.reduceLE Int.reduceLT
attribute [local go_sem_proc ↓] reduceIte
attribute [local congr] opsP_congr codeP_congr AWP_congr afterR_congr preP_congr afterPre_congr gPre_congr gOps_congr condP_congr stepE_congr
attribute [local go_sem] ty_int ty_bool ty_str ty_u8 ty_ints ty_bytes ty_page ty_pages ty_lpage ty_lpages ty_rec ty_recs ty_lrec ty_lrecs ty_eng ty_leng
attribute [local go_sem] true_and and_true beq_true' beq_false' toNat_cast Int.natCast_nonneg Bool.not_not Bool.not_true Bool.not_false decide_true decide_false Bool.or_false Bool.false_or Bool.or_true Bool.true_or Bool.and_false Bool.false_and Nat.zero_add Int.toNat_of_nonneg wrap_succ wrap_m1 wrap_nat succ_m1 cast0 succ_pos' succ_ne' succ_bne' ge_iff_le gt_iff_lt if_true if_false
attribute [local go_sem] slt_r slt_I slt_p
theorem FnExactEngineWrite_ok (e g : Eng) (b : Bool) (page : Int) (hs : e.small) (h0 : ¬ szE e 1048576 < 0) (hg : g.mid)
    (cS : Fn1 Tryz.prog 16 [eA e, I page] (.tup [eA g, Bo b])) (cI : Fn1 Tryz.prog 17 [eA e, I page] (.tup [eA g, Bo b]))
    (cIo : Fn Tryz.prog 17 [eA e, I page] (fun r S => r = dR (g, b) ∧ S = dS 0 g)) : Fn1 Tryz.prog 9 [eA e, I page] (Bo true) := by
  have hm : e.mid := mid_of h0
  have cz := szEngine_fn e 1048576 (by omega) hs
  have ct := toEngine_fn e hm
  have cto := toEngine_own e hm
  have ceg := eqEngine_fn g g hg.small
  rw [sameE_refl] at ceg
  have cee := eqEngine_fn e e hs
  rw [sameE_refl] at cee
  refine fn1_of Tryz.func9 rfl rfl ?_
  simp -implicitDefEqProofs only [go_sem, Tryz.f9]
  (repeat' (first | ((with_reducible first | refine gon ?_ ?_ | refine gos ?_ ?_ | refine cdn ?_ ?_ | refine cds ?_ ?_ | refine gpn ?_ ?_ | refine gps ?_ ?_) <;> intro h <;> (try simp only [dt, df, gi, gt] at h) <;> try simp -implicitDefEqProofs only [go_sem, *]) | ((with_reducible refine And.intro ?_ ?_); (· first | omega | (simp only [List.length_take]; omega)); try simp -implicitDefEqProofs only [go_sem, *]) | ((with_reducible refine enter_pu (cz) ?_ ?_ ?_); (· rfl); (· rfl); try simp -implicitDefEqProofs only [go_sem, *])))
  ((with_reducible refine enter_pu (ct) ?_ ?_ ?_); (· rfl); (· rfl); try simp -implicitDefEqProofs only [go_sem, *])
  (repeat' (first | ((with_reducible first | refine gon ?_ ?_ | refine gos ?_ ?_ | refine cdn ?_ ?_ | refine cds ?_ ?_ | refine gpn ?_ ?_ | refine gps ?_ ?_) <;> intro h <;> (try simp only [dt, df, gi, gt] at h) <;> try simp -implicitDefEqProofs only [go_sem, *]) | ((with_reducible refine And.intro ?_ ?_); (· first | omega | (simp only [List.length_take]; omega)); try simp -implicitDefEqProofs only [go_sem, *]) | ((with_reducible refine enter_pu (cS) ?_ ?_ ?_); (· rfl); (· rfl); try simp -implicitDefEqProofs only [go_sem, *])))
  obtain ⟨n1, hn1⟩ : ∃ n1, 2 + (1 + e.disk.length) = n1 := ⟨_, rfl⟩
  obtain ⟨n2, hn2⟩ : ∃ n2, 2 + (2 + e.disk.length + e.mem.length) = n2 := ⟨_, rfl⟩
  refine enter_fnE 2 n1 n2 rfl hn1 hn2 cto rfl ?_
  intro A hA
  obtain ⟨n, hn⟩ : ∃ n, A.length = n := ⟨_, rfl⟩
  have a0 : ∀ T, getO (A ++ T) 0 = some ⟨5, [eA e]⟩ := fun T => by rw [hA]; rfl
  have a1 : ∀ T, getO (A ++ T) 1 = some ⟨5, [eA g]⟩ := fun T => by rw [hA]; rfl
  have ax : ∀ (o : AObj) T, getO (A ++ some o :: T) n = some o := fun o T => by rw [← hn]; exact getO_app
  have ay : ∀ (o x : Option AObj) T, (A ++ o :: T).set n x = A ++ x :: T := fun o x T => by rw [← hn]; exact set_app
  replace hA := Hid.mk' hA
  simp -implicitDefEqProofs only [go_sem, List.append_assoc, hn, ax, ay, a0, a1]
  have hHx : ∀ T, Has (A ++ T) 2 (dS 2 e) := fun T => by
    rw [hA]
    exact Has.mid rfl
  obtain ⟨m1, hm1⟩ : ∃ m1, n + 1 + (1 + g.disk.length) = m1 := ⟨_, rfl⟩
  obtain ⟨m2, hm2⟩ : ∃ m2, n + 1 + (2 + g.disk.length + g.mem.length) = m2 := ⟨_, rfl⟩
  refine enter_seeE (n + 1) m1 m2 (by rw [List.length_append, hn]; rfl) hm1 hm2 cIo (.cons _ _ _ _ (see_dV hn1 hn2 (hHx _)) (.cons _ _ _ _ (see_same rfl) .nil)) ?_
  intro B hB
  obtain ⟨bl, hbl⟩ : ∃ bl, B.length = bl := ⟨_, rfl⟩
  replace hB := Hid.mk' hB
  have bx : ∀ (c : Option AObj) (o : AObj) T, getO (A ++ c :: (B ++ some o :: T)) (n + (bl + 1)) = some o := fun c o T => getO_app2 hn hbl
  have by' : ∀ (c o x : Option AObj) T, (A ++ c :: (B ++ o :: T)).set (n + (bl + 1)) x = A ++ c :: (B ++ x :: T) := fun c o x T => set_app2 hn hbl
  have bnn : (b == b) = true := by cases b <;> rfl
  simp -implicitDefEqProofs only [go_sem, List.append_assoc, hn, hbl, ax, ay, a0, a1, bx, by']
  have seeG : ∀ c T, Sees (A ++ c :: (B ++ T)) true (dV (n + 1) m1 m2 g) (eA g) := fun c T => by
    have h : B = dS (n + 1) g := hB
    refine see_dV hm1 hm2 ?_
    rw [← h]
    exact has_app2 hn
  refine enter_see1 ceg (.cons _ _ _ _ (seeG _ _) (.cons _ _ _ _ (see_same rfl) .nil)) rfl rfl ?_
  simp -implicitDefEqProofs only [go_sem, ax, ay, a0, a1, bx, by', bnn]
  refine cp_drawG (id := 10) 5 (fun S => getO S n = some ⟨5, [dV 2 n1 n2 e]⟩ ∧ getO S 0 = some ⟨5, [eA e]⟩) mixed rfl ?_
  (refine expG_get 0 (dV 2 n1 n2 e) rfl ?_ ?_ ⟨ax _ _, a0 _⟩ ?_ ?_); (· decide +kernel); (· decide +kernel); (· (rintro S ⟨hS0, hS1⟩; simp -implicitDefEqProofs only [go_sem, hS0, hS1, *])); try simp -implicitDefEqProofs only [go_sem, List.set_cons_succ, List.set_cons_zero]
  (refine expG_get 1 (eA e) rfl ?_ ?_ ⟨ax _ _, a0 _⟩ ?_ ?_); (· decide +kernel); (· decide +kernel); (· (rintro S ⟨hS0, hS1⟩; simp -implicitDefEqProofs only [go_sem, hS0, hS1, *])); try simp -implicitDefEqProofs only [go_sem, List.set_cons_succ, List.set_cons_zero]
  ((with_reducible refine expG_one 2 ?_ ?_); (· decide +kernel); try simp -implicitDefEqProofs only [go_sem, *])
  ((with_reducible refine enter_pu (ct) ?_ ?_ ?_); (· rfl); (· rfl); try simp -implicitDefEqProofs only [go_sem, *])
  ((with_reducible refine expG_one 3 ?_ ?_); (· decide +kernel); try simp -implicitDefEqProofs only [go_sem, *])
  refine enter_see1 cee (.cons _ _ _ _ (see_dV hn1 hn2 (hHx _)) (.cons _ _ _ _ (see_same rfl) .nil)) rfl rfl ?_
  simp -implicitDefEqProofs only [go_sem, ax, a0]
  (repeat' (first | ((with_reducible first | refine gon ?_ ?_ | refine gos ?_ ?_ | refine cdn ?_ ?_ | refine cds ?_ ?_ | refine gpn ?_ ?_ | refine gps ?_ ?_) <;> intro h <;> (try simp only [dt, df, gi, gt] at h) <;> try simp -implicitDefEqProofs only [go_sem, *]) | ((with_reducible refine And.intro ?_ ?_); (· first | omega | (simp only [List.length_take]; omega)); try simp -implicitDefEqProofs only [go_sem, *]) | first | ((with_reducible refine expG_one 4 ?_ ?_); (· decide +kernel); try simp -implicitDefEqProofs only [go_sem, *]) | ((with_reducible refine expG_end ?_ ?_); (· decide +kernel); try simp -implicitDefEqProofs only [go_sem, *])))
  refine enter_mid 2 (A := [some ⟨5, [eA e]⟩, some ⟨5, [eA g]⟩]) (X0 := dS 0 e) (X1 := dS 0 (markE 1 e)) (B := some ⟨5, [dV 2 n1 n2 e]⟩ :: (B ++ [some ⟨5, [dV (n + 1) m1 m2 g]⟩])) (args' := [dE 0 e, I 1]) (markEngine_c e hm) ?_ rfl dS_mark_len (by rw [dS_len]; exact cl_dS (by omega)) ?_ rfl ?_ ?_ ?_
  · rw [sh_dS, hA]
  · rw [← dS_mark_len (k := 1), dS_len]
    exact cl_dS (by omega)
  · rw [List.map_cons, sh_dE, Nat.add_zero, ← dV_eq hn1 hn2, List.map_cons, List.map_nil, sh_prim]
  · simp only [List.all_cons, List.all_nil, Bool.and_true]
    rw [dS_len]
    exact Bool.and_eq_true_iff.2 ⟨cl_dE (by omega), rfl⟩
  obtain ⟨A2, hA2⟩ : ∃ A2, [some ⟨5, [eA e]⟩, some ⟨5, [eA g]⟩] ++ shS 2 (dS 0 (markE 1 e)) = A2 := ⟨_, rfl⟩
  have hn' : A2.length = n := by
    have h1 : A = [some ⟨5, [eA e]⟩, some ⟨5, [eA g]⟩] ++ dS 2 e := hA
    rw [← hA2, ← hn, h1, List.length_append, List.length_append, shS_len, dS_mark_len, dS_len, dS_len]
  have a0' : ∀ T, getO (A2 ++ T) 0 = some ⟨5, [eA e]⟩ := fun T => by rw [← hA2]; rfl
  have a1' : ∀ T, getO (A2 ++ T) 1 = some ⟨5, [eA g]⟩ := fun T => by rw [← hA2]; rfl
  have ax' : ∀ (o : AObj) T, getO (A2 ++ some o :: T) n = some o := fun o T => by rw [← hn']; exact getO_app
  have k1 : ¬ (1 + (cntE e : Int) < 0) := by omega
  have k2 : ¬ (1 + (cntE g : Int) < 0) := by omega
  have k3 : ((1 + (cntE g : Int)) != (1 + (cntE g : Int))) = false := by simp
  have hh := heldEngine_fn g hg
  have bx' : ∀ (c : Option AObj) (o : AObj) T, getO (A2 ++ c :: (B ++ some o :: T)) (n + (bl + 1)) = some o := fun c o T => getO_app2 hn' hbl
  have seeG' : ∀ c T, Sees (A2 ++ c :: (B ++ T)) true (dV (n + 1) m1 m2 g) (eA g) := fun c T => by
    have h : B = dS (n + 1) g := hB
    refine see_dV hm1 hm2 ?_
    rw [← h]
    exact has_app2 hn'
  rw [hA2]
  clear hA2
  simp -implicitDefEqProofs only [go_sem, a0', a1', ax', bx', k1]
  refine enter_see1 ceg (.cons _ _ _ _ (seeG' _ _) (.cons _ _ _ _ (see_same rfl) .nil)) rfl rfl ?_
  simp -implicitDefEqProofs only [go_sem, a0', a1', ax', bx', bnn]
  (repeat' (first | ((with_reducible first | refine gon ?_ ?_ | refine gos ?_ ?_ | refine cdn ?_ ?_ | refine cds ?_ ?_ | refine gpn ?_ ?_ | refine gps ?_ ?_) <;> intro h <;> (try simp only [dt, df, gi, gt] at h) <;> try simp -implicitDefEqProofs only [go_sem, *]) | ((with_reducible refine And.intro ?_ ?_); (· first | omega | (simp only [List.length_take]; omega)); try simp -implicitDefEqProofs only [go_sem, *]) | fail))
  refine enter_mid (n + 1) (A := A2 ++ [some ⟨5, [dV 2 n1 n2 e]⟩]) (X0 := dS 0 g) (X1 := dS 0 (markE 1 g)) (B := [some ⟨5, [dV (n + 1) m1 m2 g]⟩]) (args' := [dE 0 g, I 1]) (markEngine_c g hg) ?_ (by rw [List.length_append, hn']; rfl) dS_mark_len (by rw [dS_len]; exact cl_dS (by omega)) ?_ rfl ?_ ?_ ?_
  · have h : B = dS (n + 1) g := hB
    rw [sh_dS, Nat.add_zero, ← h, List.append_assoc, List.append_assoc]
    rfl
  · rw [← dS_mark_len (k := 1), dS_len]
    exact cl_dS (by omega)
  · rw [List.map_cons, sh_dE, Nat.add_zero, ← dV_eq hm1 hm2, List.map_cons, List.map_nil, sh_prim]
  · simp only [List.all_cons, List.all_nil, Bool.and_true]
    rw [dS_len]
    exact Bool.and_eq_true_iff.2 ⟨cl_dE (by omega), rfl⟩
  obtain ⟨B2, hB2⟩ : ∃ B2, shS (n + 1) (dS 0 (markE 1 g)) = B2 := ⟨_, rfl⟩
  have hbl' : B2.length = bl := by
    have h : B = dS (n + 1) g := hB
    rw [← hB2, ← hbl, h, shS_len, dS_mark_len, dS_len, dS_len]
  have bx2 : ∀ (c : Option AObj) (o : AObj) T, getO (A2 ++ c :: (B2 ++ some o :: T)) (n + (bl + 1)) = some o := fun c o T => getO_app2 hn' hbl'
  have see2 : ∀ c T, Sees (A2 ++ c :: (B2 ++ T)) true (dV (n + 1) m1 m2 g) (eA (markE 1 g)) := fun c T => by
    have h : dS (n + 1) (markE 1 g) = B2 := by rw [← hB2, sh_dS, Nat.add_zero]
    rw [dV_eq hm1 hm2, ← dE_mark (k := 1)]
    refine see_dE ?_
    rw [h]
    exact has_app2 hn'
  rw [hB2]
  clear hB2
  simp -implicitDefEqProofs only [go_sem, List.append_assoc, a0', a1', ax', bx2, k2]
  refine enter_see1 hh (.cons _ _ _ _ (see2 _ _) (.cons _ _ _ _ (see_same rfl) .nil)) rfl rfl ?_
  simp -implicitDefEqProofs only [go_sem, a0', a1', ax', bx2, k2, k3]
  have cx2 : ∀ (c d : Option AObj) (o : AObj) T, getO (A2 ++ c :: (B2 ++ d :: some o :: T)) (n + (bl + 1 + 1)) = some o := fun c d o T => getO_app3 hn' hbl'
  have cy2 : ∀ (c d o x : Option AObj) T, (A2 ++ c :: (B2 ++ d :: o :: T)).set (n + (bl + 1 + 1)) x = A2 ++ c :: (B2 ++ d :: x :: T) := fun c d o x T => set_app3 hn' hbl'
  ((with_reducible refine enter_pu (ct) ?_ ?_ ?_); (· rfl); (· rfl); try simp -implicitDefEqProofs only [go_sem, *])
  ((with_reducible refine enter_pu (cI) ?_ ?_ ?_); (· rfl); (· rfl); try simp -implicitDefEqProofs only [go_sem, *])
  simp -implicitDefEqProofs only [go_sem, List.append_assoc, a0', a1', ax', bx2, k2, k3, cx2, cy2, bnn]
  (repeat' (first | ((with_reducible first | refine gon ?_ ?_ | refine gos ?_ ?_ | refine cdn ?_ ?_ | refine cds ?_ ?_ | refine gpn ?_ ?_ | refine gps ?_ ?_) <;> intro h <;> (try simp only [dt, df, gi, gt] at h) <;> try simp -implicitDefEqProofs only [go_sem, *]) | ((with_reducible refine And.intro ?_ ?_); (· first | omega | (simp only [List.length_take]; omega)); try simp -implicitDefEqProofs only [go_sem, *]) | ((with_reducible refine enter_pu (ceg) ?_ ?_ ?_); (· rfl); (· rfl); try simp -implicitDefEqProofs only [go_sem, *])))
  refine enter_see1 hh (.cons _ _ _ _ (see2 _ _) (.cons _ _ _ _ (see_same rfl) .nil)) rfl rfl ?_
  simp -implicitDefEqProofs only [go_sem, k2, k3]
  (repeat' (first | ((with_reducible first | refine gon ?_ ?_ | refine gos ?_ ?_ | refine cdn ?_ ?_ | refine cds ?_ ?_ | refine gpn ?_ ?_ | refine gps ?_ ?_) <;> intro h <;> (try simp only [dt, df, gi, gt] at h) <;> try simp -implicitDefEqProofs only [go_sem, *]) | ((with_reducible refine And.intro ?_ ?_); (· first | omega | (simp only [List.length_take]; omega)); try simp -implicitDefEqProofs only [go_sem, *]) | fail))
  all_goals exact fin_pu rfl rfl
theorem FnExactEngineWrite_no (e g : Eng) (b : Bool) (page : Int) (hs : e.small) (h0 : ¬ szE e 1048576 < 0) (hgz : g = zeroE)
    (cS : Fn1 Tryz.prog 16 [eA e, I page] (.tup [eA g, Bo b])) (cI : Fn1 Tryz.prog 17 [eA e, I page] (.tup [eA g, Bo b]))
    (cIo : Fn Tryz.prog 17 [eA e, I page] (fun r S => r = .tup [zA, Bo b] ∧ S = [])) : Fn1 Tryz.prog 9 [eA e, I page] (Bo true) := by
  have hg : g.mid := by rw [hgz]; exact zeroE_mid
  replace hgz := Hid.mk' hgz
  have hm : e.mid := mid_of h0
  have cz := szEngine_fn e 1048576 (by omega) hs
  have ct := toEngine_fn e hm
  have cto := toEngine_own e hm
  have ceg := eqEngine_fn g g hg.small
  rw [sameE_refl] at ceg
  have cee := eqEngine_fn e e hs
  rw [sameE_refl] at cee
  refine fn1_of Tryz.func9 rfl rfl ?_
  simp -implicitDefEqProofs only [go_sem, Tryz.f9]
  (repeat' (first | ((with_reducible first | refine gon ?_ ?_ | refine gos ?_ ?_ | refine cdn ?_ ?_ | refine cds ?_ ?_ | refine gpn ?_ ?_ | refine gps ?_ ?_) <;> intro h <;> (try simp only [dt, df, gi, gt] at h) <;> try simp -implicitDefEqProofs only [go_sem, *]) | ((with_reducible refine And.intro ?_ ?_); (· first | omega | (simp only [List.length_take]; omega)); try simp -implicitDefEqProofs only [go_sem, *]) | ((with_reducible refine enter_pu (cz) ?_ ?_ ?_); (· rfl); (· rfl); try simp -implicitDefEqProofs only [go_sem, *])))
  ((with_reducible refine enter_pu (ct) ?_ ?_ ?_); (· rfl); (· rfl); try simp -implicitDefEqProofs only [go_sem, *])
  (repeat' (first | ((with_reducible first | refine gon ?_ ?_ | refine gos ?_ ?_ | refine cdn ?_ ?_ | refine cds ?_ ?_ | refine gpn ?_ ?_ | refine gps ?_ ?_) <;> intro h <;> (try simp only [dt, df, gi, gt] at h) <;> try simp -implicitDefEqProofs only [go_sem, *]) | ((with_reducible refine And.intro ?_ ?_); (· first | omega | (simp only [List.length_take]; omega)); try simp -implicitDefEqProofs only [go_sem, *]) | ((with_reducible refine enter_pu (cS) ?_ ?_ ?_); (· rfl); (· rfl); try simp -implicitDefEqProofs only [go_sem, *])))
  obtain ⟨n1, hn1⟩ : ∃ n1, 2 + (1 + e.disk.length) = n1 := ⟨_, rfl⟩
  obtain ⟨n2, hn2⟩ : ∃ n2, 2 + (2 + e.disk.length + e.mem.length) = n2 := ⟨_, rfl⟩
  refine enter_fnE 2 n1 n2 rfl hn1 hn2 cto rfl ?_
  intro A hA
  obtain ⟨n, hn⟩ : ∃ n, A.length = n := ⟨_, rfl⟩
  have a0 : ∀ T, getO (A ++ T) 0 = some ⟨5, [eA e]⟩ := fun T => by rw [hA]; rfl
  have a1 : ∀ T, getO (A ++ T) 1 = some ⟨5, [eA g]⟩ := fun T => by rw [hA]; rfl
  have ax : ∀ (o : AObj) T, getO (A ++ some o :: T) n = some o := fun o T => by rw [← hn]; exact getO_app
  have ay : ∀ (o x : Option AObj) T, (A ++ o :: T).set n x = A ++ x :: T := fun o x T => by rw [← hn]; exact set_app
  replace hA := Hid.mk' hA
  simp -implicitDefEqProofs only [go_sem, List.append_assoc, hn, ax, ay, a0, a1]
  have hHx : ∀ T, Has (A ++ T) 2 (dS 2 e) := fun T => by
    rw [hA]
    exact Has.mid rfl
  refine enter_see cIo (.cons _ _ _ _ (see_dV hn1 hn2 (hHx _)) (.cons _ _ _ _ (see_same rfl) .nil)) rfl (fun o ho => by cases ho) ?_
  have bx : ∀ (c : Option AObj) (o : AObj) T, getO (A ++ c :: some o :: T) (n + 1) = some o := fun c o T => getO_app2 (B := []) hn rfl
  have by' : ∀ (c o x : Option AObj) T, (A ++ c :: o :: T).set (n + 1) x = A ++ c :: x :: T := fun c o x T => set_app2 (B := []) hn rfl
  have bnn : (b == b) = true := by cases b <;> rfl
  simp -implicitDefEqProofs only [go_sem, shS, List.map_nil, List.append_nil, List.append_assoc, hn, ax, ay, a0, a1, bx, by']
  have seeG : ∀ S, Sees S true zA (eA g) := fun S => by rw [hgz]; exact see_z
  refine enter_see1 ceg (.cons _ _ _ _ (seeG _) (.cons _ _ _ _ (see_same rfl) .nil)) rfl rfl ?_
  simp -implicitDefEqProofs only [go_sem, ax, ay, a0, a1, bx, by', bnn]
  refine cp_drawG (id := 10) 5 (fun S => getO S n = some ⟨5, [dV 2 n1 n2 e]⟩ ∧ getO S 0 = some ⟨5, [eA e]⟩) mixed rfl ?_
  (refine expG_get 0 (dV 2 n1 n2 e) rfl ?_ ?_ ⟨ax _ _, a0 _⟩ ?_ ?_); (· decide +kernel); (· decide +kernel); (· (rintro S ⟨hS0, hS1⟩; simp -implicitDefEqProofs only [go_sem, hS0, hS1, *])); try simp -implicitDefEqProofs only [go_sem, List.set_cons_succ, List.set_cons_zero]
  (refine expG_get 1 (eA e) rfl ?_ ?_ ⟨ax _ _, a0 _⟩ ?_ ?_); (· decide +kernel); (· decide +kernel); (· (rintro S ⟨hS0, hS1⟩; simp -implicitDefEqProofs only [go_sem, hS0, hS1, *])); try simp -implicitDefEqProofs only [go_sem, List.set_cons_succ, List.set_cons_zero]
  ((with_reducible refine expG_one 2 ?_ ?_); (· decide +kernel); try simp -implicitDefEqProofs only [go_sem, *])
  ((with_reducible refine enter_pu (ct) ?_ ?_ ?_); (· rfl); (· rfl); try simp -implicitDefEqProofs only [go_sem, *])
  ((with_reducible refine expG_one 3 ?_ ?_); (· decide +kernel); try simp -implicitDefEqProofs only [go_sem, *])
  refine enter_see1 cee (.cons _ _ _ _ (see_dV hn1 hn2 (hHx _)) (.cons _ _ _ _ (see_same rfl) .nil)) rfl rfl ?_
  simp -implicitDefEqProofs only [go_sem, ax, a0]
  (repeat' (first | ((with_reducible first | refine gon ?_ ?_ | refine gos ?_ ?_ | refine cdn ?_ ?_ | refine cds ?_ ?_ | refine gpn ?_ ?_ | refine gps ?_ ?_) <;> intro h <;> (try simp only [dt, df, gi, gt] at h) <;> try simp -implicitDefEqProofs only [go_sem, *]) | ((with_reducible refine And.intro ?_ ?_); (· first | omega | (simp only [List.length_take]; omega)); try simp -implicitDefEqProofs only [go_sem, *]) | first | ((with_reducible refine expG_one 4 ?_ ?_); (· decide +kernel); try simp -implicitDefEqProofs only [go_sem, *]) | ((with_reducible refine expG_end ?_ ?_); (· decide +kernel); try simp -implicitDefEqProofs only [go_sem, *])))
  refine enter_mid 2 (A := [some ⟨5, [eA e]⟩, some ⟨5, [eA g]⟩]) (X0 := dS 0 e) (X1 := dS 0 (markE 1 e)) (B := some ⟨5, [dV 2 n1 n2 e]⟩ :: [some ⟨5, [zA]⟩]) (args' := [dE 0 e, I 1]) (markEngine_c e hm) ?_ rfl dS_mark_len (by rw [dS_len]; exact cl_dS (by omega)) ?_ rfl ?_ ?_ ?_
  · rw [sh_dS, hA]
  · rw [← dS_mark_len (k := 1), dS_len]
    exact cl_dS (by omega)
  · rw [List.map_cons, sh_dE, Nat.add_zero, ← dV_eq hn1 hn2, List.map_cons, List.map_nil, sh_prim]
  · simp only [List.all_cons, List.all_nil, Bool.and_true]
    rw [dS_len]
    exact Bool.and_eq_true_iff.2 ⟨cl_dE (by omega), rfl⟩
  obtain ⟨A2, hA2⟩ : ∃ A2, [some ⟨5, [eA e]⟩, some ⟨5, [eA g]⟩] ++ shS 2 (dS 0 (markE 1 e)) = A2 := ⟨_, rfl⟩
  have hn' : A2.length = n := by
    have h1 : A = [some ⟨5, [eA e]⟩, some ⟨5, [eA g]⟩] ++ dS 2 e := hA
    rw [← hA2, ← hn, h1, List.length_append, List.length_append, shS_len, dS_mark_len, dS_len, dS_len]
  have a0' : ∀ T, getO (A2 ++ T) 0 = some ⟨5, [eA e]⟩ := fun T => by rw [← hA2]; rfl
  have a1' : ∀ T, getO (A2 ++ T) 1 = some ⟨5, [eA g]⟩ := fun T => by rw [← hA2]; rfl
  have ax' : ∀ (o : AObj) T, getO (A2 ++ some o :: T) n = some o := fun o T => by rw [← hn']; exact getO_app
  have k1 : ¬ (1 + (cntE e : Int) < 0) := by omega
  have k2 : ¬ (1 + (cntE g : Int) < 0) := by omega
  have k3 : ((1 + (cntE g : Int)) != (1 + (cntE g : Int))) = false := by simp
  have hh := heldEngine_fn g hg
  have bx' : ∀ (c : Option AObj) (o : AObj) T, getO (A2 ++ c :: some o :: T) (n + 1) = some o := fun c o T => getO_app2 (B := []) hn' rfl
  rw [hA2]
  clear hA2
  simp -implicitDefEqProofs only [go_sem, a0', a1', ax', bx', k1]
  refine enter_see1 ceg (.cons _ _ _ _ (seeG _) (.cons _ _ _ _ (see_same rfl) .nil)) rfl rfl ?_
  simp -implicitDefEqProofs only [go_sem, a0', a1', ax', bx', bnn]
  (repeat' (first | ((with_reducible first | refine gon ?_ ?_ | refine gos ?_ ?_ | refine cdn ?_ ?_ | refine cds ?_ ?_ | refine gpn ?_ ?_ | refine gps ?_ ?_) <;> intro h <;> (try simp only [dt, df, gi, gt] at h) <;> try simp -implicitDefEqProofs only [go_sem, *]) | ((with_reducible refine And.intro ?_ ?_); (· first | omega | (simp only [List.length_take]; omega)); try simp -implicitDefEqProofs only [go_sem, *]) | ((with_reducible refine enter_pu (markZ) ?_ ?_ ?_); (· rfl); (· rfl); try simp -implicitDefEqProofs only [go_sem, *])))
  have e1 : markE 1 g = g := by rw [hgz]; rfl
  have e2 : (1 + (cntE g : Int)) = 1 := by rw [hgz]; rfl
  rw [e1, e2] at hh
  refine enter_see1 hh (.cons _ _ _ _ (seeG _) (.cons _ _ _ _ (see_same rfl) .nil)) rfl rfl ?_
  simp -implicitDefEqProofs only [go_sem, a0', a1', ax', bx']
  (repeat' (first | ((with_reducible first | refine gon ?_ ?_ | refine gos ?_ ?_ | refine cdn ?_ ?_ | refine cds ?_ ?_ | refine gpn ?_ ?_ | refine gps ?_ ?_) <;> intro h <;> (try simp only [dt, df, gi, gt] at h) <;> try simp -implicitDefEqProofs only [go_sem, *]) | ((with_reducible refine And.intro ?_ ?_); (· first | omega | (simp only [List.length_take]; omega)); try simp -implicitDefEqProofs only [go_sem, *]) | fail))
  have cx2 : ∀ (c d : Option AObj) (o : AObj) T, getO (A2 ++ c :: d :: some o :: T) (n + (1 + 1)) = some o := fun c d o T => getO_app3 (B := []) hn' rfl
  have cy2 : ∀ (c d o x : Option AObj) T, (A2 ++ c :: d :: o :: T).set (n + (1 + 1)) x = A2 ++ c :: d :: x :: T := fun c d o x T => set_app3 (B := []) hn' rfl
  ((with_reducible refine enter_pu (ct) ?_ ?_ ?_); (· rfl); (· rfl); try simp -implicitDefEqProofs only [go_sem, *])
  ((with_reducible refine enter_pu (cI) ?_ ?_ ?_); (· rfl); (· rfl); try simp -implicitDefEqProofs only [go_sem, *])
  simp -implicitDefEqProofs only [go_sem, List.append_assoc, a0', a1', ax', bx', cx2, cy2, bnn]
  (repeat' (first | ((with_reducible first | refine gon ?_ ?_ | refine gos ?_ ?_ | refine cdn ?_ ?_ | refine cds ?_ ?_ | refine gpn ?_ ?_ | refine gps ?_ ?_) <;> intro h <;> (try simp only [dt, df, gi, gt] at h) <;> try simp -implicitDefEqProofs only [go_sem, *]) | ((with_reducible refine And.intro ?_ ?_); (· first | omega | (simp only [List.length_take]; omega)); try simp -implicitDefEqProofs only [go_sem, *]) | ((with_reducible refine enter_pu (ceg) ?_ ?_ ?_); (· rfl); (· rfl); try simp -implicitDefEqProofs only [go_sem, *])))
  refine enter_see1 hh (.cons _ _ _ _ (seeG _) (.cons _ _ _ _ (see_same rfl) .nil)) rfl rfl ?_
  simp -implicitDefEqProofs only [go_sem, true_and]
  (repeat' (first | ((with_reducible first | refine gon ?_ ?_ | refine gos ?_ ?_ | refine cdn ?_ ?_ | refine cds ?_ ?_ | refine gpn ?_ ?_ | refine gps ?_ ?_) <;> intro h <;> (try simp only [dt, df, gi, gt] at h) <;> try simp -implicitDefEqProofs only [go_sem, *]) | ((with_reducible refine And.intro ?_ ?_); (· first | omega | (simp only [List.length_take]; omega)); try simp -implicitDefEqProofs only [go_sem, *]) | fail))
  all_goals exact fin_pu rfl rfl
theorem FnExactEngineWrite_out (e : Eng) (page : Int) (hs : e.small) (h0 : szE e 1048576 < 0) : Fn1 Tryz.prog 9 [eA e, I page] (Bo true) := by
  have cz := szEngine_fn e 1048576 (by omega) hs
  refine fn1_of Tryz.func9 rfl rfl ?_
  simp -implicitDefEqProofs only [go_sem, Tryz.f9, h0]
  (repeat' (first | ((with_reducible first | refine gon ?_ ?_ | refine gos ?_ ?_ | refine cdn ?_ ?_ | refine cds ?_ ?_ | refine gpn ?_ ?_ | refine gps ?_ ?_) <;> intro h <;> (try simp only [dt, df, gi, gt] at h) <;> try simp -implicitDefEqProofs only [go_sem, *]) | ((with_reducible refine And.intro ?_ ?_); (· first | omega | (simp only [List.length_take]; omega)); try simp -implicitDefEqProofs only [go_sem, *]) | ((with_reducible refine enter_pu (cz) ?_ ?_ ?_); (· rfl); (· rfl); try simp -implicitDefEqProofs only [go_sem, *])))
  exact fin_pu rfl rfl
theorem ExactWrite_law (e : Eng) (hs : e.small) (page : Int) : Fn1 Tryz.prog 9 [eA e, I page] (Bo true) := by
  by_cases h0 : szE e 1048576 < 0
  · exact FnExactEngineWrite_out e page hs h0
  have hm := mid_of h0
  have cS := EngineWriteS_fn e page hs
  have cI := EngineWriteI_fn e page hs
  by_cases hk : okE e = true ∧ e.down = false ∧ isIn page 0 4 = true
  · have hf : writeE e page = (e.write page, true) := by unfold writeE; rw [if_pos hk]
    have co := EngineWriteI_own e page hk hs
    rw [hf] at cS cI co
    exact FnExactEngineWrite_ok e (e.write page) true page hs h0 (write_mid hm) cS cI co
  · have hf : writeE e page = (zeroE, false) := by unfold writeE; rw [if_neg hk]
    rw [hf] at cS cI
    exact FnExactEngineWrite_no e zeroE false page hs h0 rfl cS cI (EngineWriteI_none e page hk hs)
end Go.Proofs.YtagjgjhkdihodaaGreat.Am
end
section
set_option linter.unusedVariables false
set_option linter.unusedSimpArgs false
set_option maxRecDepth 100000
set_option maxHeartbeats 8000000
namespace Go.Proofs.YtagjgjhkdihodaaGreat.Am
open Go Go.RowKit Go.Proofs
attribute [local go_sem_proc] Nat.reduceAdd Nat.reduceSub Nat.reduceMul Nat.reduceLT Nat.reduceLeDiff Nat.reduceEqDiff Int.reduceBEq Int.reduceBNe Int.reduceNeg Int.reduceSub Int.reduceLE Int.reduceLT
attribute [local go_sem_proc ↓] reduceIte
attribute [local congr] opsP_congr codeP_congr AWP_congr afterR_congr preP_congr afterPre_congr gPre_congr gOps_congr condP_congr stepE_congr
attribute [local go_sem] ty_int ty_bool ty_str ty_u8 ty_ints ty_bytes ty_page ty_pages ty_lpage ty_lpages ty_rec ty_recs ty_lrec ty_lrecs ty_eng ty_leng
attribute [local go_sem] true_and and_true beq_true' beq_false' toNat_cast Int.natCast_nonneg Bool.not_not Bool.not_true Bool.not_false decide_true decide_false Bool.or_false Bool.false_or Bool.or_true Bool.true_or Bool.and_false Bool.false_and Nat.zero_add Int.toNat_of_nonneg wrap_succ wrap_m1 wrap_nat succ_m1 cast0 succ_pos' succ_ne' succ_bne' ge_iff_le gt_iff_lt if_true if_false
attribute [local go_sem] slt_r slt_I slt_p
theorem FnExactEndDone_ok (e g : Eng) (b : Bool) (tx : Int) (hs : e.small) (h0 : ¬ szE e 1048576 < 0) (hg : g.mid)
    (cS : Fn1 Tryz.prog 44 [eA e, I tx] (.tup [eA g, Bo b])) (cI : Fn1 Tryz.prog 45 [eA e, I tx] (.tup [eA g, Bo b]))
    (cIo : Fn Tryz.prog 45 [eA e, I tx] (fun r S => r = dR (g, b) ∧ S = dS 0 g)) : Fn1 Tryz.prog 10 [eA e, I tx] (Bo true) := by
  have hm : e.mid := mid_of h0
  have cz := szEngine_fn e 1048576 (by omega) hs
  have ct := toEngine_fn e hm
  have cto := toEngine_own e hm
  have ceg := eqEngine_fn g g hg.small
  rw [sameE_refl] at ceg
  have cee := eqEngine_fn e e hs
  rw [sameE_refl] at cee
  refine fn1_of Tryz.func10 rfl rfl ?_
  simp -implicitDefEqProofs only [go_sem, Tryz.f10]
  (repeat' (first | ((with_reducible first | refine gon ?_ ?_ | refine gos ?_ ?_ | refine cdn ?_ ?_ | refine cds ?_ ?_ | refine gpn ?_ ?_ | refine gps ?_ ?_) <;> intro h <;> (try simp only [dt, df, gi, gt] at h) <;> try simp -implicitDefEqProofs only [go_sem, *]) | ((with_reducible refine And.intro ?_ ?_); (· first | omega | (simp only [List.length_take]; omega)); try simp -implicitDefEqProofs only [go_sem, *]) | ((with_reducible refine enter_pu (cz) ?_ ?_ ?_); (· rfl); (· rfl); try simp -implicitDefEqProofs only [go_sem, *])))
  ((with_reducible refine enter_pu (ct) ?_ ?_ ?_); (· rfl); (· rfl); try simp -implicitDefEqProofs only [go_sem, *])
  (repeat' (first | ((with_reducible first | refine gon ?_ ?_ | refine gos ?_ ?_ | refine cdn ?_ ?_ | refine cds ?_ ?_ | refine gpn ?_ ?_ | refine gps ?_ ?_) <;> intro h <;> (try simp only [dt, df, gi, gt] at h) <;> try simp -implicitDefEqProofs only [go_sem, *]) | ((with_reducible refine And.intro ?_ ?_); (· first | omega | (simp only [List.length_take]; omega)); try simp -implicitDefEqProofs only [go_sem, *]) | ((with_reducible refine enter_pu (cS) ?_ ?_ ?_); (· rfl); (· rfl); try simp -implicitDefEqProofs only [go_sem, *])))
  obtain ⟨n1, hn1⟩ : ∃ n1, 2 + (1 + e.disk.length) = n1 := ⟨_, rfl⟩
  obtain ⟨n2, hn2⟩ : ∃ n2, 2 + (2 + e.disk.length + e.mem.length) = n2 := ⟨_, rfl⟩
  refine enter_fnE 2 n1 n2 rfl hn1 hn2 cto rfl ?_
  intro A hA
  obtain ⟨n, hn⟩ : ∃ n, A.length = n := ⟨_, rfl⟩
  have a0 : ∀ T, getO (A ++ T) 0 = some ⟨5, [eA e]⟩ := fun T => by rw [hA]; rfl
  have a1 : ∀ T, getO (A ++ T) 1 = some ⟨5, [eA g]⟩ := fun T => by rw [hA]; rfl
  have ax : ∀ (o : AObj) T, getO (A ++ some o :: T) n = some o := fun o T => by rw [← hn]; exact getO_app
  have ay : ∀ (o x : Option AObj) T, (A ++ o :: T).set n x = A ++ x :: T := fun o x T => by rw [← hn]; exact set_app
  replace hA := Hid.mk' hA
  simp -implicitDefEqProofs only [go_sem, List.append_assoc, hn, ax, ay, a0, a1]
  have hHx : ∀ T, Has (A ++ T) 2 (dS 2 e) := fun T => by
    rw [hA]
    exact Has.mid rfl
  obtain ⟨m1, hm1⟩ : ∃ m1, n + 1 + (1 + g.disk.length) = m1 := ⟨_, rfl⟩
  obtain ⟨m2, hm2⟩ : ∃ m2, n + 1 + (2 + g.disk.length + g.mem.length) = m2 := ⟨_, rfl⟩
  refine enter_seeE (n + 1) m1 m2 (by rw [List.length_append, hn]; rfl) hm1 hm2 cIo (.cons _ _ _ _ (see_dV hn1 hn2 (hHx _)) (.cons _ _ _ _ (see_same rfl) .nil)) ?_
  intro B hB
  obtain ⟨bl, hbl⟩ : ∃ bl, B.length = bl := ⟨_, rfl⟩
  replace hB := Hid.mk' hB
  have bx : ∀ (c : Option AObj) (o : AObj) T, getO (A ++ c :: (B ++ some o :: T)) (n + (bl + 1)) = some o := fun c o T => getO_app2 hn hbl
  have by' : ∀ (c o x : Option AObj) T, (A ++ c :: (B ++ o :: T)).set (n + (bl + 1)) x = A ++ c :: (B ++ x :: T) := fun c o x T => set_app2 hn hbl
  have bnn : (b == b) = true := by cases b <;> rfl
  simp -implicitDefEqProofs only [go_sem, List.append_assoc, hn, hbl, ax, ay, a0, a1, bx, by']
  have seeG : ∀ c T, Sees (A ++ c :: (B ++ T)) true (dV (n + 1) m1 m2 g) (eA g) := fun c T => by
    have h : B = dS (n + 1) g := hB
    refine see_dV hm1 hm2 ?_
    rw [← h]
    exact has_app2 hn
  refine enter_see1 ceg (.cons _ _ _ _ (seeG _ _) (.cons _ _ _ _ (see_same rfl) .nil)) rfl rfl ?_
  simp -implicitDefEqProofs only [go_sem, ax, ay, a0, a1, bx, by', bnn]
  refine cp_drawG (id := 10) 5 (fun S => getO S n = some ⟨5, [dV 2 n1 n2 e]⟩ ∧ getO S 0 = some ⟨5, [eA e]⟩) mixed rfl ?_
  (refine expG_get 0 (dV 2 n1 n2 e) rfl ?_ ?_ ⟨ax _ _, a0 _⟩ ?_ ?_); (· decide +kernel); (· decide +kernel); (· (rintro S ⟨hS0, hS1⟩; simp -implicitDefEqProofs only [go_sem, hS0, hS1, *])); try simp -implicitDefEqProofs only [go_sem, List.set_cons_succ, List.set_cons_zero]
  (refine expG_get 1 (eA e) rfl ?_ ?_ ⟨ax _ _, a0 _⟩ ?_ ?_); (· decide +kernel); (· decide +kernel); (· (rintro S ⟨hS0, hS1⟩; simp -implicitDefEqProofs only [go_sem, hS0, hS1, *])); try simp -implicitDefEqProofs only [go_sem, List.set_cons_succ, List.set_cons_zero]
  ((with_reducible refine expG_one 2 ?_ ?_); (· decide +kernel); try simp -implicitDefEqProofs only [go_sem, *])
  ((with_reducible refine enter_pu (ct) ?_ ?_ ?_); (· rfl); (· rfl); try simp -implicitDefEqProofs only [go_sem, *])
  ((with_reducible refine expG_one 3 ?_ ?_); (· decide +kernel); try simp -implicitDefEqProofs only [go_sem, *])
  refine enter_see1 cee (.cons _ _ _ _ (see_dV hn1 hn2 (hHx _)) (.cons _ _ _ _ (see_same rfl) .nil)) rfl rfl ?_
  simp -implicitDefEqProofs only [go_sem, ax, a0]
  (repeat' (first | ((with_reducible first | refine gon ?_ ?_ | refine gos ?_ ?_ | refine cdn ?_ ?_ | refine cds ?_ ?_ | refine gpn ?_ ?_ | refine gps ?_ ?_) <;> intro h <;> (try simp only [dt, df, gi, gt] at h) <;> try simp -implicitDefEqProofs only [go_sem, *]) | ((with_reducible refine And.intro ?_ ?_); (· first | omega | (simp only [List.length_take]; omega)); try simp -implicitDefEqProofs only [go_sem, *]) | first | ((with_reducible refine expG_one 4 ?_ ?_); (· decide +kernel); try simp -implicitDefEqProofs only [go_sem, *]) | ((with_reducible refine expG_end ?_ ?_); (· decide +kernel); try simp -implicitDefEqProofs only [go_sem, *])))
  refine enter_mid 2 (A := [some ⟨5, [eA e]⟩, some ⟨5, [eA g]⟩]) (X0 := dS 0 e) (X1 := dS 0 (markE 1 e)) (B := some ⟨5, [dV 2 n1 n2 e]⟩ :: (B ++ [some ⟨5, [dV (n + 1) m1 m2 g]⟩])) (args' := [dE 0 e, I 1]) (markEngine_c e hm) ?_ rfl dS_mark_len (by rw [dS_len]; exact cl_dS (by omega)) ?_ rfl ?_ ?_ ?_
  · rw [sh_dS, hA]
  · rw [← dS_mark_len (k := 1), dS_len]
    exact cl_dS (by omega)
  · rw [List.map_cons, sh_dE, Nat.add_zero, ← dV_eq hn1 hn2, List.map_cons, List.map_nil, sh_prim]
  · simp only [List.all_cons, List.all_nil, Bool.and_true]
    rw [dS_len]
    exact Bool.and_eq_true_iff.2 ⟨cl_dE (by omega), rfl⟩
  obtain ⟨A2, hA2⟩ : ∃ A2, [some ⟨5, [eA e]⟩, some ⟨5, [eA g]⟩] ++ shS 2 (dS 0 (markE 1 e)) = A2 := ⟨_, rfl⟩
  have hn' : A2.length = n := by
    have h1 : A = [some ⟨5, [eA e]⟩, some ⟨5, [eA g]⟩] ++ dS 2 e := hA
    rw [← hA2, ← hn, h1, List.length_append, List.length_append, shS_len, dS_mark_len, dS_len, dS_len]
  have a0' : ∀ T, getO (A2 ++ T) 0 = some ⟨5, [eA e]⟩ := fun T => by rw [← hA2]; rfl
  have a1' : ∀ T, getO (A2 ++ T) 1 = some ⟨5, [eA g]⟩ := fun T => by rw [← hA2]; rfl
  have ax' : ∀ (o : AObj) T, getO (A2 ++ some o :: T) n = some o := fun o T => by rw [← hn']; exact getO_app
  have k1 : ¬ (1 + (cntE e : Int) < 0) := by omega
  have k2 : ¬ (1 + (cntE g : Int) < 0) := by omega
  have k3 : ((1 + (cntE g : Int)) != (1 + (cntE g : Int))) = false := by simp
  have hh := heldEngine_fn g hg
  have bx' : ∀ (c : Option AObj) (o : AObj) T, getO (A2 ++ c :: (B ++ some o :: T)) (n + (bl + 1)) = some o := fun c o T => getO_app2 hn' hbl
  have seeG' : ∀ c T, Sees (A2 ++ c :: (B ++ T)) true (dV (n + 1) m1 m2 g) (eA g) := fun c T => by
    have h : B = dS (n + 1) g := hB
    refine see_dV hm1 hm2 ?_
    rw [← h]
    exact has_app2 hn'
  rw [hA2]
  clear hA2
  simp -implicitDefEqProofs only [go_sem, a0', a1', ax', bx', k1]
  refine enter_see1 ceg (.cons _ _ _ _ (seeG' _ _) (.cons _ _ _ _ (see_same rfl) .nil)) rfl rfl ?_
  simp -implicitDefEqProofs only [go_sem, a0', a1', ax', bx', bnn]
  (repeat' (first | ((with_reducible first | refine gon ?_ ?_ | refine gos ?_ ?_ | refine cdn ?_ ?_ | refine cds ?_ ?_ | refine gpn ?_ ?_ | refine gps ?_ ?_) <;> intro h <;> (try simp only [dt, df, gi, gt] at h) <;> try simp -implicitDefEqProofs only [go_sem, *]) | ((with_reducible refine And.intro ?_ ?_); (· first | omega | (simp only [List.length_take]; omega)); try simp -implicitDefEqProofs only [go_sem, *]) | fail))
  refine enter_mid (n + 1) (A := A2 ++ [some ⟨5, [dV 2 n1 n2 e]⟩]) (X0 := dS 0 g) (X1 := dS 0 (markE 1 g)) (B := [some ⟨5, [dV (n + 1) m1 m2 g]⟩]) (args' := [dE 0 g, I 1]) (markEngine_c g hg) ?_ (by rw [List.length_append, hn']; rfl) dS_mark_len (by rw [dS_len]; exact cl_dS (by omega)) ?_ rfl ?_ ?_ ?_
  · have h : B = dS (n + 1) g := hB
    rw [sh_dS, Nat.add_zero, ← h, List.append_assoc, List.append_assoc]
    rfl
  · rw [← dS_mark_len (k := 1), dS_len]
    exact cl_dS (by omega)
  · rw [List.map_cons, sh_dE, Nat.add_zero, ← dV_eq hm1 hm2, List.map_cons, List.map_nil, sh_prim]
  · simp only [List.all_cons, List.all_nil, Bool.and_true]
    rw [dS_len]
    exact Bool.and_eq_true_iff.2 ⟨cl_dE (by omega), rfl⟩
  obtain ⟨B2, hB2⟩ : ∃ B2, shS (n + 1) (dS 0 (markE 1 g)) = B2 := ⟨_, rfl⟩
  have hbl' : B2.length = bl := by
    have h : B = dS (n + 1) g := hB
    rw [← hB2, ← hbl, h, shS_len, dS_mark_len, dS_len, dS_len]
  have bx2 : ∀ (c : Option AObj) (o : AObj) T, getO (A2 ++ c :: (B2 ++ some o :: T)) (n + (bl + 1)) = some o := fun c o T => getO_app2 hn' hbl'
  have see2 : ∀ c T, Sees (A2 ++ c :: (B2 ++ T)) true (dV (n + 1) m1 m2 g) (eA (markE 1 g)) := fun c T => by
    have h : dS (n + 1) (markE 1 g) = B2 := by rw [← hB2, sh_dS, Nat.add_zero]
    rw [dV_eq hm1 hm2, ← dE_mark (k := 1)]
    refine see_dE ?_
    rw [h]
    exact has_app2 hn'
  rw [hB2]
  clear hB2
  simp -implicitDefEqProofs only [go_sem, List.append_assoc, a0', a1', ax', bx2, k2]
  refine enter_see1 hh (.cons _ _ _ _ (see2 _ _) (.cons _ _ _ _ (see_same rfl) .nil)) rfl rfl ?_
  simp -implicitDefEqProofs only [go_sem, a0', a1', ax', bx2, k2, k3]
  have cx2 : ∀ (c d : Option AObj) (o : AObj) T, getO (A2 ++ c :: (B2 ++ d :: some o :: T)) (n + (bl + 1 + 1)) = some o := fun c d o T => getO_app3 hn' hbl'
  have cy2 : ∀ (c d o x : Option AObj) T, (A2 ++ c :: (B2 ++ d :: o :: T)).set (n + (bl + 1 + 1)) x = A2 ++ c :: (B2 ++ d :: x :: T) := fun c d o x T => set_app3 hn' hbl'
  ((with_reducible refine enter_pu (ct) ?_ ?_ ?_); (· rfl); (· rfl); try simp -implicitDefEqProofs only [go_sem, *])
  ((with_reducible refine enter_pu (cI) ?_ ?_ ?_); (· rfl); (· rfl); try simp -implicitDefEqProofs only [go_sem, *])
  simp -implicitDefEqProofs only [go_sem, List.append_assoc, a0', a1', ax', bx2, k2, k3, cx2, cy2, bnn]
  (repeat' (first | ((with_reducible first | refine gon ?_ ?_ | refine gos ?_ ?_ | refine cdn ?_ ?_ | refine cds ?_ ?_ | refine gpn ?_ ?_ | refine gps ?_ ?_) <;> intro h <;> (try simp only [dt, df, gi, gt] at h) <;> try simp -implicitDefEqProofs only [go_sem, *]) | ((with_reducible refine And.intro ?_ ?_); (· first | omega | (simp only [List.length_take]; omega)); try simp -implicitDefEqProofs only [go_sem, *]) | ((with_reducible refine enter_pu (ceg) ?_ ?_ ?_); (· rfl); (· rfl); try simp -implicitDefEqProofs only [go_sem, *])))
  refine enter_see1 hh (.cons _ _ _ _ (see2 _ _) (.cons _ _ _ _ (see_same rfl) .nil)) rfl rfl ?_
  simp -implicitDefEqProofs only [go_sem, k2, k3]
  (repeat' (first | ((with_reducible first | refine gon ?_ ?_ | refine gos ?_ ?_ | refine cdn ?_ ?_ | refine cds ?_ ?_ | refine gpn ?_ ?_ | refine gps ?_ ?_) <;> intro h <;> (try simp only [dt, df, gi, gt] at h) <;> try simp -implicitDefEqProofs only [go_sem, *]) | ((with_reducible refine And.intro ?_ ?_); (· first | omega | (simp only [List.length_take]; omega)); try simp -implicitDefEqProofs only [go_sem, *]) | fail))
  all_goals exact fin_pu rfl rfl
theorem FnExactEndDone_no (e g : Eng) (b : Bool) (tx : Int) (hs : e.small) (h0 : ¬ szE e 1048576 < 0) (hgz : g = zeroE)
    (cS : Fn1 Tryz.prog 44 [eA e, I tx] (.tup [eA g, Bo b])) (cI : Fn1 Tryz.prog 45 [eA e, I tx] (.tup [eA g, Bo b]))
    (cIo : Fn Tryz.prog 45 [eA e, I tx] (fun r S => r = .tup [zA, Bo b] ∧ S = [])) : Fn1 Tryz.prog 10 [eA e, I tx] (Bo true) := by
  have hg : g.mid := by rw [hgz]; exact zeroE_mid
  replace hgz := Hid.mk' hgz
  have hm : e.mid := mid_of h0
  have cz := szEngine_fn e 1048576 (by omega) hs
  have ct := toEngine_fn e hm
  have cto := toEngine_own e hm
  have ceg := eqEngine_fn g g hg.small
  rw [sameE_refl] at ceg
  have cee := eqEngine_fn e e hs
  rw [sameE_refl] at cee
  refine fn1_of Tryz.func10 rfl rfl ?_
  simp -implicitDefEqProofs only [go_sem, Tryz.f10]
  (repeat' (first | ((with_reducible first | refine gon ?_ ?_ | refine gos ?_ ?_ | refine cdn ?_ ?_ | refine cds ?_ ?_ | refine gpn ?_ ?_ | refine gps ?_ ?_) <;> intro h <;> (try simp only [dt, df, gi, gt] at h) <;> try simp -implicitDefEqProofs only [go_sem, *]) | ((with_reducible refine And.intro ?_ ?_); (· first | omega | (simp only [List.length_take]; omega)); try simp -implicitDefEqProofs only [go_sem, *]) | ((with_reducible refine enter_pu (cz) ?_ ?_ ?_); (· rfl); (· rfl); try simp -implicitDefEqProofs only [go_sem, *])))
  ((with_reducible refine enter_pu (ct) ?_ ?_ ?_); (· rfl); (· rfl); try simp -implicitDefEqProofs only [go_sem, *])
  (repeat' (first | ((with_reducible first | refine gon ?_ ?_ | refine gos ?_ ?_ | refine cdn ?_ ?_ | refine cds ?_ ?_ | refine gpn ?_ ?_ | refine gps ?_ ?_) <;> intro h <;> (try simp only [dt, df, gi, gt] at h) <;> try simp -implicitDefEqProofs only [go_sem, *]) | ((with_reducible refine And.intro ?_ ?_); (· first | omega | (simp only [List.length_take]; omega)); try simp -implicitDefEqProofs only [go_sem, *]) | ((with_reducible refine enter_pu (cS) ?_ ?_ ?_); (· rfl); (· rfl); try simp -implicitDefEqProofs only [go_sem, *])))
  obtain ⟨n1, hn1⟩ : ∃ n1, 2 + (1 + e.disk.length) = n1 := ⟨_, rfl⟩
  obtain ⟨n2, hn2⟩ : ∃ n2, 2 + (2 + e.disk.length + e.mem.length) = n2 := ⟨_, rfl⟩
  refine enter_fnE 2 n1 n2 rfl hn1 hn2 cto rfl ?_
  intro A hA
  obtain ⟨n, hn⟩ : ∃ n, A.length = n := ⟨_, rfl⟩
  have a0 : ∀ T, getO (A ++ T) 0 = some ⟨5, [eA e]⟩ := fun T => by rw [hA]; rfl
  have a1 : ∀ T, getO (A ++ T) 1 = some ⟨5, [eA g]⟩ := fun T => by rw [hA]; rfl
  have ax : ∀ (o : AObj) T, getO (A ++ some o :: T) n = some o := fun o T => by rw [← hn]; exact getO_app
  have ay : ∀ (o x : Option AObj) T, (A ++ o :: T).set n x = A ++ x :: T := fun o x T => by rw [← hn]; exact set_app
  replace hA := Hid.mk' hA
  simp -implicitDefEqProofs only [go_sem, List.append_assoc, hn, ax, ay, a0, a1]
  have hHx : ∀ T, Has (A ++ T) 2 (dS 2 e) := fun T => by
    rw [hA]
    exact Has.mid rfl
  refine enter_see cIo (.cons _ _ _ _ (see_dV hn1 hn2 (hHx _)) (.cons _ _ _ _ (see_same rfl) .nil)) rfl (fun o ho => by cases ho) ?_
  have bx : ∀ (c : Option AObj) (o : AObj) T, getO (A ++ c :: some o :: T) (n + 1) = some o := fun c o T => getO_app2 (B := []) hn rfl
  have by' : ∀ (c o x : Option AObj) T, (A ++ c :: o :: T).set (n + 1) x = A ++ c :: x :: T := fun c o x T => set_app2 (B := []) hn rfl
  have bnn : (b == b) = true := by cases b <;> rfl
  simp -implicitDefEqProofs only [go_sem, shS, List.map_nil, List.append_nil, List.append_assoc, hn, ax, ay, a0, a1, bx, by']
  have seeG : ∀ S, Sees S true zA (eA g) := fun S => by rw [hgz]; exact see_z
  refine enter_see1 ceg (.cons _ _ _ _ (seeG _) (.cons _ _ _ _ (see_same rfl) .nil)) rfl rfl ?_
  simp -implicitDefEqProofs only [go_sem, ax, ay, a0, a1, bx, by', bnn]
  refine cp_drawG (id := 10) 5 (fun S => getO S n = some ⟨5, [dV 2 n1 n2 e]⟩ ∧ getO S 0 = some ⟨5, [eA e]⟩) mixed rfl ?_
  (refine expG_get 0 (dV 2 n1 n2 e) rfl ?_ ?_ ⟨ax _ _, a0 _⟩ ?_ ?_); (· decide +kernel); (· decide +kernel); (· (rintro S ⟨hS0, hS1⟩; simp -implicitDefEqProofs only [go_sem, hS0, hS1, *])); try simp -implicitDefEqProofs only [go_sem, List.set_cons_succ, List.set_cons_zero]
  (refine expG_get 1 (eA e) rfl ?_ ?_ ⟨ax _ _, a0 _⟩ ?_ ?_); (· decide +kernel); (· decide +kernel); (· (rintro S ⟨hS0, hS1⟩; simp -implicitDefEqProofs only [go_sem, hS0, hS1, *])); try simp -implicitDefEqProofs only [go_sem, List.set_cons_succ, List.set_cons_zero]
  ((with_reducible refine expG_one 2 ?_ ?_); (· decide +kernel); try simp -implicitDefEqProofs only [go_sem, *])
  ((with_reducible refine enter_pu (ct) ?_ ?_ ?_); (· rfl); (· rfl); try simp -implicitDefEqProofs only [go_sem, *])
  ((with_reducible refine expG_one 3 ?_ ?_); (· decide +kernel); try simp -implicitDefEqProofs only [go_sem, *])
  refine enter_see1 cee (.cons _ _ _ _ (see_dV hn1 hn2 (hHx _)) (.cons _ _ _ _ (see_same rfl) .nil)) rfl rfl ?_
  simp -implicitDefEqProofs only [go_sem, ax, a0]
  (repeat' (first | ((with_reducible first | refine gon ?_ ?_ | refine gos ?_ ?_ | refine cdn ?_ ?_ | refine cds ?_ ?_ | refine gpn ?_ ?_ | refine gps ?_ ?_) <;> intro h <;> (try simp only [dt, df, gi, gt] at h) <;> try simp -implicitDefEqProofs only [go_sem, *]) | ((with_reducible refine And.intro ?_ ?_); (· first | omega | (simp only [List.length_take]; omega)); try simp -implicitDefEqProofs only [go_sem, *]) | first | ((with_reducible refine expG_one 4 ?_ ?_); (· decide +kernel); try simp -implicitDefEqProofs only [go_sem, *]) | ((with_reducible refine expG_end ?_ ?_); (· decide +kernel); try simp -implicitDefEqProofs only [go_sem, *])))
  refine enter_mid 2 (A := [some ⟨5, [eA e]⟩, some ⟨5, [eA g]⟩]) (X0 := dS 0 e) (X1 := dS 0 (markE 1 e)) (B := some ⟨5, [dV 2 n1 n2 e]⟩ :: [some ⟨5, [zA]⟩]) (args' := [dE 0 e, I 1]) (markEngine_c e hm) ?_ rfl dS_mark_len (by rw [dS_len]; exact cl_dS (by omega)) ?_ rfl ?_ ?_ ?_
  · rw [sh_dS, hA]
  · rw [← dS_mark_len (k := 1), dS_len]
    exact cl_dS (by omega)
  · rw [List.map_cons, sh_dE, Nat.add_zero, ← dV_eq hn1 hn2, List.map_cons, List.map_nil, sh_prim]
  · simp only [List.all_cons, List.all_nil, Bool.and_true]
    rw [dS_len]
    exact Bool.and_eq_true_iff.2 ⟨cl_dE (by omega), rfl⟩
  obtain ⟨A2, hA2⟩ : ∃ A2, [some ⟨5, [eA e]⟩, some ⟨5, [eA g]⟩] ++ shS 2 (dS 0 (markE 1 e)) = A2 := ⟨_, rfl⟩
  have hn' : A2.length = n := by
    have h1 : A = [some ⟨5, [eA e]⟩, some ⟨5, [eA g]⟩] ++ dS 2 e := hA
    rw [← hA2, ← hn, h1, List.length_append, List.length_append, shS_len, dS_mark_len, dS_len, dS_len]
  have a0' : ∀ T, getO (A2 ++ T) 0 = some ⟨5, [eA e]⟩ := fun T => by rw [← hA2]; rfl
  have a1' : ∀ T, getO (A2 ++ T) 1 = some ⟨5, [eA g]⟩ := fun T => by rw [← hA2]; rfl
  have ax' : ∀ (o : AObj) T, getO (A2 ++ some o :: T) n = some o := fun o T => by rw [← hn']; exact getO_app
  have k1 : ¬ (1 + (cntE e : Int) < 0) := by omega
  have k2 : ¬ (1 + (cntE g : Int) < 0) := by omega
  have k3 : ((1 + (cntE g : Int)) != (1 + (cntE g : Int))) = false := by simp
  have hh := heldEngine_fn g hg
  have bx' : ∀ (c : Option AObj) (o : AObj) T, getO (A2 ++ c :: some o :: T) (n + 1) = some o := fun c o T => getO_app2 (B := []) hn' rfl
  rw [hA2]
  clear hA2
  simp -implicitDefEqProofs only [go_sem, a0', a1', ax', bx', k1]
  refine enter_see1 ceg (.cons _ _ _ _ (seeG _) (.cons _ _ _ _ (see_same rfl) .nil)) rfl rfl ?_
  simp -implicitDefEqProofs only [go_sem, a0', a1', ax', bx', bnn]
  (repeat' (first | ((with_reducible first | refine gon ?_ ?_ | refine gos ?_ ?_ | refine cdn ?_ ?_ | refine cds ?_ ?_ | refine gpn ?_ ?_ | refine gps ?_ ?_) <;> intro h <;> (try simp only [dt, df, gi, gt] at h) <;> try simp -implicitDefEqProofs only [go_sem, *]) | ((with_reducible refine And.intro ?_ ?_); (· first | omega | (simp only [List.length_take]; omega)); try simp -implicitDefEqProofs only [go_sem, *]) | ((with_reducible refine enter_pu (markZ) ?_ ?_ ?_); (· rfl); (· rfl); try simp -implicitDefEqProofs only [go_sem, *])))
  have e1 : markE 1 g = g := by rw [hgz]; rfl
  have e2 : (1 + (cntE g : Int)) = 1 := by rw [hgz]; rfl
  rw [e1, e2] at hh
  refine enter_see1 hh (.cons _ _ _ _ (seeG _) (.cons _ _ _ _ (see_same rfl) .nil)) rfl rfl ?_
  simp -implicitDefEqProofs only [go_sem, a0', a1', ax', bx']
  (repeat' (first | ((with_reducible first | refine gon ?_ ?_ | refine gos ?_ ?_ | refine cdn ?_ ?_ | refine cds ?_ ?_ | refine gpn ?_ ?_ | refine gps ?_ ?_) <;> intro h <;> (try simp only [dt, df, gi, gt] at h) <;> try simp -implicitDefEqProofs only [go_sem, *]) | ((with_reducible refine And.intro ?_ ?_); (· first | omega | (simp only [List.length_take]; omega)); try simp -implicitDefEqProofs only [go_sem, *]) | fail))
  have cx2 : ∀ (c d : Option AObj) (o : AObj) T, getO (A2 ++ c :: d :: some o :: T) (n + (1 + 1)) = some o := fun c d o T => getO_app3 (B := []) hn' rfl
  have cy2 : ∀ (c d o x : Option AObj) T, (A2 ++ c :: d :: o :: T).set (n + (1 + 1)) x = A2 ++ c :: d :: x :: T := fun c d o x T => set_app3 (B := []) hn' rfl
  ((with_reducible refine enter_pu (ct) ?_ ?_ ?_); (· rfl); (· rfl); try simp -implicitDefEqProofs only [go_sem, *])
  ((with_reducible refine enter_pu (cI) ?_ ?_ ?_); (· rfl); (· rfl); try simp -implicitDefEqProofs only [go_sem, *])
  simp -implicitDefEqProofs only [go_sem, List.append_assoc, a0', a1', ax', bx', cx2, cy2, bnn]
  (repeat' (first | ((with_reducible first | refine gon ?_ ?_ | refine gos ?_ ?_ | refine cdn ?_ ?_ | refine cds ?_ ?_ | refine gpn ?_ ?_ | refine gps ?_ ?_) <;> intro h <;> (try simp only [dt, df, gi, gt] at h) <;> try simp -implicitDefEqProofs only [go_sem, *]) | ((with_reducible refine And.intro ?_ ?_); (· first | omega | (simp only [List.length_take]; omega)); try simp -implicitDefEqProofs only [go_sem, *]) | ((with_reducible refine enter_pu (ceg) ?_ ?_ ?_); (· rfl); (· rfl); try simp -implicitDefEqProofs only [go_sem, *])))
  refine enter_see1 hh (.cons _ _ _ _ (seeG _) (.cons _ _ _ _ (see_same rfl) .nil)) rfl rfl ?_
  simp -implicitDefEqProofs only [go_sem, true_and]
  (repeat' (first | ((with_reducible first | refine gon ?_ ?_ | refine gos ?_ ?_ | refine cdn ?_ ?_ | refine cds ?_ ?_ | refine gpn ?_ ?_ | refine gps ?_ ?_) <;> intro h <;> (try simp only [dt, df, gi, gt] at h) <;> try simp -implicitDefEqProofs only [go_sem, *]) | ((with_reducible refine And.intro ?_ ?_); (· first | omega | (simp only [List.length_take]; omega)); try simp -implicitDefEqProofs only [go_sem, *]) | fail))
  all_goals exact fin_pu rfl rfl
theorem FnExactEndDone_out (e : Eng) (tx : Int) (hs : e.small) (h0 : szE e 1048576 < 0) : Fn1 Tryz.prog 10 [eA e, I tx] (Bo true) := by
  have cz := szEngine_fn e 1048576 (by omega) hs
  refine fn1_of Tryz.func10 rfl rfl ?_
  simp -implicitDefEqProofs only [go_sem, Tryz.f10, h0]
  (repeat' (first | ((with_reducible first | refine gon ?_ ?_ | refine gos ?_ ?_ | refine cdn ?_ ?_ | refine cds ?_ ?_ | refine gpn ?_ ?_ | refine gps ?_ ?_) <;> intro h <;> (try simp only [dt, df, gi, gt] at h) <;> try simp -implicitDefEqProofs only [go_sem, *]) | ((with_reducible refine And.intro ?_ ?_); (· first | omega | (simp only [List.length_take]; omega)); try simp -implicitDefEqProofs only [go_sem, *]) | ((with_reducible refine enter_pu (cz) ?_ ?_ ?_); (· rfl); (· rfl); try simp -implicitDefEqProofs only [go_sem, *])))
  exact fin_pu rfl rfl
theorem ExactDone_law (e : Eng) (hs : e.small) (tx : Int) : Fn1 Tryz.prog 10 [eA e, I tx] (Bo true) := by
  by_cases h0 : szE e 1048576 < 0
  · exact FnExactEndDone_out e tx hs h0
  have cS := EndDoneS_fn e tx hs
  have cI := EndDoneI_fn e tx hs
  rcases hok : okE e with _ | _
  · have hf : doneE e tx = (zeroE, false) := by unfold doneE; rw [if_neg (by rw [hok]; decide)]
    rw [hf] at cS cI
    exact FnExactEndDone_no e zeroE false tx hs h0 rfl cS cI (EndDoneI_none e tx hok hs)
  · have hi := inv_of_ok hok
    have co := EndDoneI_own e tx hok hs
    have hf : doneE e tx = doneI e tx := by unfold doneE; rw [if_pos hok, don_eq hi]
    have hg : (doneI e tx).1.mid := by rw [← don_eq hi]; exact inv_mid (done_inv hi tx)
    rw [hf] at cS cI
    obtain ⟨⟨q, b⟩, hq⟩ : ∃ q, doneI e tx = q := ⟨_, rfl⟩
    rw [hq] at cS cI co hg
    exact FnExactEndDone_ok e q b tx hs h0 hg cS cI co
end Go.Proofs.YtagjgjhkdihodaaGreat.Am
end
section
set_option linter.unusedVariables false
set_option linter.unusedSimpArgs false
set_option maxRecDepth 100000
set_option maxHeartbeats 8000000
namespace Go.Proofs.YtagjgjhkdihodaaGreat.Am
open Go Go.RowKit Go.Proofs
attribute [local go_sem_proc] Nat.reduceAdd Nat.reduceSub Nat.reduceMul Nat.reduceLT Nat.reduceLeDiff Nat.reduceEqDiff Int.reduceBEq Int.reduceBNe Int.reduceNeg Int.reduceSub Int.reduceLE Int.reduceLT
attribute [local go_sem_proc ↓] reduceIte
attribute [local congr] opsP_congr codeP_congr AWP_congr afterR_congr preP_congr afterPre_congr gPre_congr gOps_congr condP_congr stepE_congr
attribute [local go_sem] ty_int ty_bool ty_str ty_u8 ty_ints ty_bytes ty_page ty_pages ty_lpage ty_lpages ty_rec ty_recs ty_lrec ty_lrecs ty_eng ty_leng
attribute [local go_sem] true_and and_true beq_true' beq_false' toNat_cast Int.natCast_nonneg Bool.not_not Bool.not_true Bool.not_false decide_true decide_false Bool.or_false Bool.false_or Bool.or_true Bool.true_or Bool.and_false Bool.false_and Nat.zero_add Int.toNat_of_nonneg wrap_succ wrap_m1 wrap_nat succ_m1 cast0 succ_pos' succ_ne' succ_bne' ge_iff_le gt_iff_lt if_true if_false
attribute [local go_sem] slt_r slt_I slt_p
theorem markIntS_z (l z : List Int) (k : Int) (hk : 0 ≤ k ∧ k ≤ 1000000000000000) (hb : l.length ≤ 2000000) : AFn1 Tryz.prog 39 [.own 0 1 0 l.length, I k] [some ⟨1, (l ++ z).map I⟩] (I (k + (l.length : Int))) [some ⟨1, (markI k l.length ++ z).map I⟩] [] := by
  refine afn1_of Tryz.func39 rfl rfl ?_
  simp -implicitDefEqProofs only [go_sem, Tryz.f39]
  (repeat' (first | ((with_reducible first | refine gon ?_ ?_ | refine gos ?_ ?_ | refine cdn ?_ ?_ | refine cds ?_ ?_ | refine gpn ?_ ?_ | refine gps ?_ ?_) <;> intro h <;> (try simp only [dt, df, gi, gt] at h) <;> try simp -implicitDefEqProofs only [go_sem, *]) | ((with_reducible refine And.intro ?_ ?_); (· first | omega | (simp only [List.length_take]; omega)); try simp -implicitDefEqProofs only [go_sem, *]) | fail))
  refine cp_loop (fun i : Nat => ⟨(.own 0 1 0 l.length :: I (k + (i : Int)) :: .any :: .any :: I 0 :: I (i : Int) :: .any :: .any :: .any :: .any :: .any :: .any :: .any :: .any :: .any :: .any :: .any :: .any :: .any :: []), [some ⟨1, (markI k i ++ (l ++ z).drop i).map I⟩], []⟩) (fun i => i ≤ l.length) (fun i => l.length - i) 0 ?_ ?_ ?_
  · simp
  · have e0 : k + ((0 : Nat) : Int) = k := by simp
    simp only [e0]
    refine wk_tm ?_; repeat (first | exact WL.nil | (with_reducible refine WL.any _ _ _ ?_) | (with_reducible refine WL.same _ _ _ ?_) | (refine WL.eq _ _ _ _ rfl ?_))
  · rintro i hi
    have hbi : i < 4611686018427387904 := by omega
    have hfl : (markI k i ++ (l ++ z).drop i).length = l.length + z.length := by simp [markI_len]; omega
    have hw : IntKind.i64.wrap (k + (i : Int) + 1) = k + ((i + 1 : Nat) : Int) := by rw [wrap_ok (by omega) (by omega)]; omega
    by_cases hil : i < l.length
    · have hil' : (i : Int) < (l.length : Int) := by omega
      have hil2 : i < (markI k i).length + (List.drop i (l ++ z)).length := by rw [← List.length_append, hfl]; omega
      simp -implicitDefEqProofs only [go_sem, hil']
      (repeat' (first | ((with_reducible first | refine gon ?_ ?_ | refine gos ?_ ?_ | refine cdn ?_ ?_ | refine cds ?_ ?_ | refine gpn ?_ ?_ | refine gps ?_ ?_) <;> intro h <;> (try simp only [dt, df, gi, gt] at h) <;> try simp -implicitDefEqProofs only [go_sem, *]) | ((with_reducible refine And.intro ?_ ?_); (· first | omega | (simp only [List.length_take]; omega)); try simp -implicitDefEqProofs only [go_sem, *]) | fail))
      rw [set_mid (l := l ++ z) (markI_len k i) (by rw [List.length_append]; omega), ← markI_succ]
      refine ⟨i + 1, by omega, by omega, ?_⟩
      refine wk_tm ?_; repeat (first | exact WL.nil | (with_reducible refine WL.any _ _ _ ?_) | (with_reducible refine WL.same _ _ _ ?_) | (refine WL.eq _ _ _ _ rfl ?_))
    · have e : i = l.length := by omega
      subst e
      have hil' : ¬ (l.length : Int) < (l.length : Int) := by omega
      rw [List.drop_left]
      simp -implicitDefEqProofs only [go_sem, hil']
      exact fin_same ⟨rfl, rfl, rfl⟩
theorem EndLoadsI_own (e : Eng) (tx : Int) (hok : okE e = true) (h : e.small) : Fn Tryz.prog 31 [eA e, I tx] (fun r S => r = .own 0 1 0 (ldTo e.log tx 5).length ∧ ∃ z : List Int, S = [some ⟨1, (ldTo e.log tx 5 ++ z).map I⟩]) := by
  have c1 := okI e h
  rw [hok] at c1
  have c2 := loads_own e.log tx (inv_of_ok hok).wf
  refine fn_of Tryz.func31 rfl rfl ?_
  simp -implicitDefEqProofs only [go_sem, Tryz.f31]
  (repeat' (first | ((with_reducible first | refine gon ?_ ?_ | refine gos ?_ ?_ | refine cdn ?_ ?_ | refine cds ?_ ?_ | refine gpn ?_ ?_ | refine gps ?_ ?_) <;> intro h <;> (try simp only [dt, df, gi, gt] at h) <;> try simp -implicitDefEqProofs only [go_sem, *]) | ((with_reducible refine And.intro ?_ ?_); (· first | omega | (simp only [List.length_take]; omega)); try simp -implicitDefEqProofs only [go_sem, *]) | ((with_reducible refine enter_pu (c1) ?_ ?_ ?_); (· rfl); (· rfl); try simp -implicitDefEqProofs only [go_sem, *])))
  refine enter_seeX c2 (.cons _ _ _ _ (see_same rfl) (.cons _ _ _ _ (see_same rfl) (.cons _ _ _ _ (see_same rfl) .nil))) rfl ?_ ?_
  · intro z o ho x hx
    rw [List.mem_singleton] at ho
    cases ho
    obtain ⟨n, _, rfl⟩ := List.mem_map.1 hx
    rfl
  intro z
  simp -implicitDefEqProofs only [go_sem, true_and]
  exact fin_keep [1] (by simp) rfl (keep1 rfl (a2_I _ _)) (rt_own _ rfl) ⟨rfl, z, rfl⟩
theorem EndLoadsI_none (e : Eng) (tx : Int) (hok : okE e = false) (h : e.small) : Fn Tryz.prog 31 [eA e, I tx] (fun r S => r = .prim (.slice none 0 0) ∧ S = []) := by
  have c1 := okI e h
  rw [hok] at c1
  refine fn_of Tryz.func31 rfl rfl ?_
  simp -implicitDefEqProofs only [go_sem, Tryz.f31]
  (repeat' (first | ((with_reducible first | refine gon ?_ ?_ | refine gos ?_ ?_ | refine cdn ?_ ?_ | refine cds ?_ ?_ | refine gpn ?_ ?_ | refine gps ?_ ?_) <;> intro h <;> (try simp only [dt, df, gi, gt] at h) <;> try simp -implicitDefEqProofs only [go_sem, *]) | ((with_reducible refine And.intro ?_ ?_); (· first | omega | (simp only [List.length_take]; omega)); try simp -implicitDefEqProofs only [go_sem, *]) | ((with_reducible refine enter_pu (c1) ?_ ?_ ?_); (· rfl); (· rfl); try simp -implicitDefEqProofs only [go_sem, *])))
  exact fin_keep [] (by simp) rfl (fun j i hj => by simp at hj) (.of _ _ (.of _ _ (.same _ rfl))) ⟨rfl, rfl⟩
theorem see_pre {S : Store} {i n : Nat} {l k : List Int} (h : getO S i = some ⟨1, (l ++ k).map I⟩) (hn : n = l.length := by rfl) : Sees S true (.own i 1 0 n) (ints l) := by
  subst hn
  refine see_arg (.of1 _ _ (.of0 _ _ (.own i 1 0 l.length ⟨1, (l ++ k).map I⟩ (l.map iD) rfl h rfl (by simp) ?_)))
  simp only [List.drop_zero, List.map_append]
  rw [show (l.map I ++ k.map I).take l.length = l.map I by rw [List.take_left' (by simp)]]
  exact isDs_I l
theorem cl_oI {m : Nat} {l : List Int} : ([some ⟨1, l.map I⟩] : Store).all (clO m) = true := by
  simp only [List.all_cons, List.all_nil, Bool.and_true]
  exact cl_I
theorem sh_oI {n : Nat} {l : List Int} : shS n [some ⟨1, l.map I⟩] = [some ⟨1, l.map I⟩] := by
  simp only [shS, List.map_cons, List.map_nil, Option.map_some, List.map_map]
  congr 3
theorem markIntS_n (k : Int) : Fn1 Tryz.prog 39 [.prim (.slice none 0 0), I k] (I k) := by
  refine fn1_of Tryz.func39 rfl rfl ?_
  simp -implicitDefEqProofs only [go_sem, Tryz.f39]
  refine cp_loop (fun i : Nat => ⟨(nilS :: I k :: .any :: .any :: I 0 :: I 0 :: .any :: .any :: .any :: .any :: .any :: .any :: .any :: .any :: .any :: .any :: .any :: .any :: .any :: []), [], []⟩) (fun i => i = 0) (fun i => i) 0 rfl ?_ ?_
  · refine wk_tm ?_; repeat (first | exact WL.nil | (with_reducible refine WL.any _ _ _ ?_) | (with_reducible refine WL.same _ _ _ ?_) | (refine WL.eq _ _ _ _ rfl ?_))
  · rintro i rfl
    simp -implicitDefEqProofs only [go_sem, true_and]
    exact fin_pu rfl rfl
theorem heldIntS_n (k : Int) : Fn1 Tryz.prog 40 [.prim (.slice none 0 0), I k] (I k) := by
  refine fn1_of Tryz.func40 rfl rfl ?_
  simp -implicitDefEqProofs only [go_sem, Tryz.f40]
  refine cp_loop (fun i : Nat => ⟨(nilS :: I k :: .any :: .any :: I 0 :: I 0 :: .any :: .any :: .any :: .any :: .any :: .any :: .any :: .any :: .any :: .any :: .any :: .any :: .any :: .any :: .any :: []), [], []⟩) (fun i => i = 0) (fun i => i) 0 rfl ?_ ?_
  · refine wk_tm ?_; repeat (first | exact WL.nil | (with_reducible refine WL.any _ _ _ ?_) | (with_reducible refine WL.same _ _ _ ?_) | (refine WL.eq _ _ _ _ rfl ?_))
  · rintro i rfl
    simp -implicitDefEqProofs only [go_sem, true_and]
    exact fin_pu rfl rfl
theorem FnExactEndLoads_ok (e : Eng) (tx : Int) (ld : List Int) (hs : e.small) (h0 : ¬ szE e 1048576 < 0) (hll : ld.length ≤ 5) (cS : Fn1 Tryz.prog 32 [eA e, I tx] (ints ld)) (cI : Fn1 Tryz.prog 31 [eA e, I tx] (ints ld))
    (cIo : Fn Tryz.prog 31 [eA e, I tx] (fun r S => r = .own 0 1 0 ld.length ∧ ∃ z : List Int, S = [some ⟨1, (ld ++ z).map I⟩])) : Fn1 Tryz.prog 7 [eA e, I tx] (Bo true) := by
  have hm : e.mid := mid_of h0
  have cz := szEngine_fn e 1048576 (by omega) hs
  have ct := toEngine_fn e hm
  have cto := toEngine_own e hm
  have ceg := eqIntS_fn ld ld (by omega)
  rw [sameInts_refl] at ceg
  have cee := eqEngine_fn e e hs
  rw [sameE_refl] at cee
  refine fn1_of Tryz.func7 rfl rfl ?_
  simp -implicitDefEqProofs only [go_sem, Tryz.f7]
  (repeat' (first | ((with_reducible first | refine gon ?_ ?_ | refine gos ?_ ?_ | refine cdn ?_ ?_ | refine cds ?_ ?_ | refine gpn ?_ ?_ | refine gps ?_ ?_) <;> intro h <;> (try simp only [dt, df, gi, gt] at h) <;> try simp -implicitDefEqProofs only [go_sem, *]) | ((with_reducible refine And.intro ?_ ?_); (· first | omega | (simp only [List.length_take]; omega)); try simp -implicitDefEqProofs only [go_sem, *]) | ((with_reducible refine enter_pu (cz) ?_ ?_ ?_); (· rfl); (· rfl); try simp -implicitDefEqProofs only [go_sem, *])))
  ((with_reducible refine enter_pu (ct) ?_ ?_ ?_); (· rfl); (· rfl); try simp -implicitDefEqProofs only [go_sem, *])
  (repeat' (first | ((with_reducible first | refine gon ?_ ?_ | refine gos ?_ ?_ | refine cdn ?_ ?_ | refine cds ?_ ?_ | refine gpn ?_ ?_ | refine gps ?_ ?_) <;> intro h <;> (try simp only [dt, df, gi, gt] at h) <;> try simp -implicitDefEqProofs only [go_sem, *]) | ((with_reducible refine And.intro ?_ ?_); (· first | omega | (simp only [List.length_take]; omega)); try simp -implicitDefEqProofs only [go_sem, *]) | ((with_reducible refine enter_pu (cS) ?_ ?_ ?_); (· rfl); (· rfl); try simp -implicitDefEqProofs only [go_sem, *])))
  obtain ⟨n1, hn1⟩ : ∃ n1, 1 + (1 + e.disk.length) = n1 := ⟨_, rfl⟩
  obtain ⟨n2, hn2⟩ : ∃ n2, 1 + (2 + e.disk.length + e.mem.length) = n2 := ⟨_, rfl⟩
  refine enter_fnE 1 n1 n2 rfl hn1 hn2 cto rfl ?_
  intro A hA
  obtain ⟨n, hn⟩ : ∃ n, A.length = n := ⟨_, rfl⟩
  have a0 : ∀ T, getO (A ++ T) 0 = some ⟨5, [eA e]⟩ := fun T => by rw [hA]; rfl
  have ax : ∀ (o : AObj) T, getO (A ++ some o :: T) n = some o := fun o T => by rw [← hn]; exact getO_app
  have ay : ∀ (o x : Option AObj) T, (A ++ o :: T).set n x = A ++ x :: T := fun o x T => by rw [← hn]; exact set_app
  replace hA := Hid.mk' hA
  simp -implicitDefEqProofs only [go_sem, List.append_assoc, hn, ax, ay, a0]
  have hHx : ∀ T, Has (A ++ T) 1 (dS 1 e) := fun T => by
    rw [hA]
    exact Has.mid rfl
  refine enter_seeX cIo (.cons _ _ _ _ (see_dV hn1 hn2 (hHx _)) (.cons _ _ _ _ (see_same rfl) .nil)) rfl ?_ ?_
  · intro z o ho x hx
    rw [List.mem_singleton] at ho
    cases ho
    obtain ⟨n, _, rfl⟩ := List.mem_map.1 hx
    rfl
  intro z
  simp -implicitDefEqProofs only [go_sem, List.append_assoc, hn, ax, ay, a0]
  have seeG : ∀ (A : Store) c T, A.length = n → Sees (A ++ c :: some ⟨1, (ld ++ z).map I⟩ :: T) true (.own (n + 1) 1 0 ld.length) (ints ld) := fun A c T h => see_pre (getO_app2 (B := []) h rfl)
  refine enter_see1 ceg (.cons _ _ _ _ (seeG _ _ _ hn) (.cons _ _ _ _ (see_same rfl) .nil)) rfl rfl ?_
  simp -implicitDefEqProofs only [go_sem, ax, ay, a0]
  refine cp_drawG (id := 10) 5 (fun S => getO S n = some ⟨5, [dV 1 n1 n2 e]⟩ ∧ getO S 0 = some ⟨5, [eA e]⟩) mixed rfl ?_
  (refine expG_get 0 (dV 1 n1 n2 e) rfl ?_ ?_ ⟨ax _ _, a0 _⟩ ?_ ?_); (· decide +kernel); (· decide +kernel); (· (rintro S ⟨hS0, hS1⟩; simp -implicitDefEqProofs only [go_sem, hS0, hS1, *])); try simp -implicitDefEqProofs only [go_sem, List.set_cons_succ, List.set_cons_zero]
  (refine expG_get 1 (eA e) rfl ?_ ?_ ⟨ax _ _, a0 _⟩ ?_ ?_); (· decide +kernel); (· decide +kernel); (· (rintro S ⟨hS0, hS1⟩; simp -implicitDefEqProofs only [go_sem, hS0, hS1, *])); try simp -implicitDefEqProofs only [go_sem, List.set_cons_succ, List.set_cons_zero]
  ((with_reducible refine expG_one 2 ?_ ?_); (· decide +kernel); try simp -implicitDefEqProofs only [go_sem, *])
  ((with_reducible refine enter_pu (ct) ?_ ?_ ?_); (· rfl); (· rfl); try simp -implicitDefEqProofs only [go_sem, *])
  ((with_reducible refine expG_one 3 ?_ ?_); (· decide +kernel); try simp -implicitDefEqProofs only [go_sem, *])
  refine enter_see1 cee (.cons _ _ _ _ (see_dV hn1 hn2 (hHx _)) (.cons _ _ _ _ (see_same rfl) .nil)) rfl rfl ?_
  simp -implicitDefEqProofs only [go_sem, ax, a0]
  (repeat' (first | ((with_reducible first | refine gon ?_ ?_ | refine gos ?_ ?_ | refine cdn ?_ ?_ | refine cds ?_ ?_ | refine gpn ?_ ?_ | refine gps ?_ ?_) <;> intro h <;> (try simp only [dt, df, gi, gt] at h) <;> try simp -implicitDefEqProofs only [go_sem, *]) | ((with_reducible refine And.intro ?_ ?_); (· first | omega | (simp only [List.length_take]; omega)); try simp -implicitDefEqProofs only [go_sem, *]) | first | ((with_reducible refine expG_one 4 ?_ ?_); (· decide +kernel); try simp -implicitDefEqProofs only [go_sem, *]) | ((with_reducible refine expG_end ?_ ?_); (· decide +kernel); try simp -implicitDefEqProofs only [go_sem, *])))
  refine enter_mid 1 (A := [some ⟨5, [eA e]⟩]) (X0 := dS 0 e) (X1 := dS 0 (markE 1 e)) (B := some ⟨5, [dV 1 n1 n2 e]⟩ :: [some ⟨1, (ld ++ z).map I⟩]) (args' := [dE 0 e, I 1]) (markEngine_c e hm) ?_ rfl dS_mark_len (by rw [dS_len]; exact cl_dS (by omega)) ?_ rfl ?_ ?_ ?_
  · rw [sh_dS, hA]
  · rw [← dS_mark_len (k := 1), dS_len]
    exact cl_dS (by omega)
  · rw [List.map_cons, sh_dE, Nat.add_zero, ← dV_eq hn1 hn2, List.map_cons, List.map_nil, sh_prim]
  · simp only [List.all_cons, List.all_nil, Bool.and_true]
    rw [dS_len]
    exact Bool.and_eq_true_iff.2 ⟨cl_dE (by omega), rfl⟩
  obtain ⟨A2, hA2⟩ : ∃ A2, [some ⟨5, [eA e]⟩] ++ shS 1 (dS 0 (markE 1 e)) = A2 := ⟨_, rfl⟩
  have hn' : A2.length = n := by
    have h1 : A = [some ⟨5, [eA e]⟩] ++ dS 1 e := hA
    rw [← hA2, ← hn, h1, List.length_append, List.length_append, shS_len, dS_mark_len, dS_len, dS_len]
  have a0' : ∀ T, getO (A2 ++ T) 0 = some ⟨5, [eA e]⟩ := fun T => by rw [← hA2]; rfl
  have ax' : ∀ (o : AObj) T, getO (A2 ++ some o :: T) n = some o := fun o T => by rw [← hn']; exact getO_app
  have k1 : ¬ (1 + (cntE e : Int) < 0) := by omega
  have k2 : ¬ (1 + (ld.length : Int) < 0) := by omega
  have k3 : ((1 + (ld.length : Int)) != (1 + (ld.length : Int))) = false := by simp
  rw [hA2]
  clear hA2
  simp -implicitDefEqProofs only [go_sem, a0', ax', k1]
  refine enter_see1 ceg (.cons _ _ _ _ (seeG _ _ _ hn') (.cons _ _ _ _ (see_same rfl) .nil)) rfl rfl ?_
  simp -implicitDefEqProofs only [go_sem, a0', ax']
  (repeat' (first | ((with_reducible first | refine gon ?_ ?_ | refine gos ?_ ?_ | refine cdn ?_ ?_ | refine cds ?_ ?_ | refine gpn ?_ ?_ | refine gps ?_ ?_) <;> intro h <;> (try simp only [dt, df, gi, gt] at h) <;> try simp -implicitDefEqProofs only [go_sem, *]) | ((with_reducible refine And.intro ?_ ?_); (· first | omega | (simp only [List.length_take]; omega)); try simp -implicitDefEqProofs only [go_sem, *]) | fail))
  refine enter_mid (n + 1) (A := A2 ++ [some ⟨5, [dV 1 n1 n2 e]⟩]) (X0 := [some ⟨1, (ld ++ z).map I⟩]) (X1 := [some ⟨1, (markI 1 ld.length ++ z).map I⟩]) (B := []) (args' := [.own 0 1 0 ld.length, I 1]) (markIntS_z ld z 1 (by omega) (by omega)) ?_ (by rw [List.length_append, hn']; rfl) rfl cl_oI cl_oI rfl ?_ rfl ?_
  · rw [sh_oI, List.append_nil, List.append_assoc]
    rfl
  · simp [AV.sh, AV.sh1, AV.sh0]
  rw [sh_oI]
  have hh := heldIntS_fn 1 ld.length (by omega) (by omega)
  have see2 : ∀ c T, Sees (A2 ++ c :: some ⟨1, (markI 1 ld.length ++ z).map I⟩ :: T) true (.own (n + 1) 1 0 ld.length) (ints (markI 1 ld.length)) := fun c T => by
    have h := see_pre (n := ld.length) (k := z) (l := markI 1 ld.length) (getO_app2 (A := A2) (B := []) (T := T) (c := c) (b := 0) hn' rfl) (markI_len _ _).symm
    exact h
  simp -implicitDefEqProofs only [go_sem, List.append_assoc, List.append_nil, a0', ax', k2]
  refine enter_see1 hh (.cons _ _ _ _ (see2 _ _) (.cons _ _ _ _ (see_same rfl) .nil)) rfl rfl ?_
  simp -implicitDefEqProofs only [go_sem, a0', ax', k2, k3]
  ((with_reducible refine enter_pu (ct) ?_ ?_ ?_); (· rfl); (· rfl); try simp -implicitDefEqProofs only [go_sem, *])
  (repeat' (first | ((with_reducible first | refine gon ?_ ?_ | refine gos ?_ ?_ | refine cdn ?_ ?_ | refine cds ?_ ?_ | refine gpn ?_ ?_ | refine gps ?_ ?_) <;> intro h <;> (try simp only [dt, df, gi, gt] at h) <;> try simp -implicitDefEqProofs only [go_sem, *]) | ((with_reducible refine And.intro ?_ ?_); (· first | omega | (simp only [List.length_take]; omega)); try simp -implicitDefEqProofs only [go_sem, *]) | first | ((with_reducible refine enter_pu (cI) ?_ ?_ ?_); (· rfl); (· rfl); try simp -implicitDefEqProofs only [go_sem, *]) | ((with_reducible refine enter_pu (ceg) ?_ ?_ ?_); (· rfl); (· rfl); try simp -implicitDefEqProofs only [go_sem, *])))
  refine enter_see1 hh (.cons _ _ _ _ (see2 _ _) (.cons _ _ _ _ (see_same rfl) .nil)) rfl rfl ?_
  simp -implicitDefEqProofs only [go_sem, k2, k3]
  (repeat' (first | ((with_reducible first | refine gon ?_ ?_ | refine gos ?_ ?_ | refine cdn ?_ ?_ | refine cds ?_ ?_ | refine gpn ?_ ?_ | refine gps ?_ ?_) <;> intro h <;> (try simp only [dt, df, gi, gt] at h) <;> try simp -implicitDefEqProofs only [go_sem, *]) | ((with_reducible refine And.intro ?_ ?_); (· first | omega | (simp only [List.length_take]; omega)); try simp -implicitDefEqProofs only [go_sem, *]) | fail))
  all_goals exact fin_pu rfl rfl
theorem FnExactEndLoads_no (e : Eng) (tx : Int) (ld : List Int) (hs : e.small) (h0 : ¬ szE e 1048576 < 0) (hll : ld.length ≤ 5) (hlz : ld = []) (cS : Fn1 Tryz.prog 32 [eA e, I tx] (ints ld)) (cI : Fn1 Tryz.prog 31 [eA e, I tx] (ints ld))
    (cIo : Fn Tryz.prog 31 [eA e, I tx] (fun r S => r = .prim (.slice none 0 0) ∧ S = [])) : Fn1 Tryz.prog 7 [eA e, I tx] (Bo true) := by
  replace hlz := Hid.mk' hlz
  have hm : e.mid := mid_of h0
  have cz := szEngine_fn e 1048576 (by omega) hs
  have ct := toEngine_fn e hm
  have cto := toEngine_own e hm
  have ceg := eqIntS_fn ld ld (by omega)
  rw [sameInts_refl] at ceg
  have cee := eqEngine_fn e e hs
  rw [sameE_refl] at cee
  refine fn1_of Tryz.func7 rfl rfl ?_
  simp -implicitDefEqProofs only [go_sem, Tryz.f7]
  (repeat' (first | ((with_reducible first | refine gon ?_ ?_ | refine gos ?_ ?_ | refine cdn ?_ ?_ | refine cds ?_ ?_ | refine gpn ?_ ?_ | refine gps ?_ ?_) <;> intro h <;> (try simp only [dt, df, gi, gt] at h) <;> try simp -implicitDefEqProofs only [go_sem, *]) | ((with_reducible refine And.intro ?_ ?_); (· first | omega | (simp only [List.length_take]; omega)); try simp -implicitDefEqProofs only [go_sem, *]) | ((with_reducible refine enter_pu (cz) ?_ ?_ ?_); (· rfl); (· rfl); try simp -implicitDefEqProofs only [go_sem, *])))
  ((with_reducible refine enter_pu (ct) ?_ ?_ ?_); (· rfl); (· rfl); try simp -implicitDefEqProofs only [go_sem, *])
  (repeat' (first | ((with_reducible first | refine gon ?_ ?_ | refine gos ?_ ?_ | refine cdn ?_ ?_ | refine cds ?_ ?_ | refine gpn ?_ ?_ | refine gps ?_ ?_) <;> intro h <;> (try simp only [dt, df, gi, gt] at h) <;> try simp -implicitDefEqProofs only [go_sem, *]) | ((with_reducible refine And.intro ?_ ?_); (· first | omega | (simp only [List.length_take]; omega)); try simp -implicitDefEqProofs only [go_sem, *]) | ((with_reducible refine enter_pu (cS) ?_ ?_ ?_); (· rfl); (· rfl); try simp -implicitDefEqProofs only [go_sem, *])))
  obtain ⟨n1, hn1⟩ : ∃ n1, 1 + (1 + e.disk.length) = n1 := ⟨_, rfl⟩
  obtain ⟨n2, hn2⟩ : ∃ n2, 1 + (2 + e.disk.length + e.mem.length) = n2 := ⟨_, rfl⟩
  refine enter_fnE 1 n1 n2 rfl hn1 hn2 cto rfl ?_
  intro A hA
  obtain ⟨n, hn⟩ : ∃ n, A.length = n := ⟨_, rfl⟩
  have a0 : ∀ T, getO (A ++ T) 0 = some ⟨5, [eA e]⟩ := fun T => by rw [hA]; rfl
  have ax : ∀ (o : AObj) T, getO (A ++ some o :: T) n = some o := fun o T => by rw [← hn]; exact getO_app
  have ay : ∀ (o x : Option AObj) T, (A ++ o :: T).set n x = A ++ x :: T := fun o x T => by rw [← hn]; exact set_app
  replace hA := Hid.mk' hA
  simp -implicitDefEqProofs only [go_sem, List.append_assoc, hn, ax, ay, a0]
  have hHx : ∀ T, Has (A ++ T) 1 (dS 1 e) := fun T => by
    rw [hA]
    exact Has.mid rfl
  refine enter_see cIo (.cons _ _ _ _ (see_dV hn1 hn2 (hHx _)) (.cons _ _ _ _ (see_same rfl) .nil)) rfl (fun o ho => by cases ho) ?_
  simp -implicitDefEqProofs only [go_sem, shS, List.map_nil, List.append_nil, List.append_assoc, hn, ax, ay, a0]
  have seeG : ∀ S, Sees S true (.prim (.slice none 0 0)) (ints ld) := fun S => by rw [hlz]; exact see_arg (.of1 _ _ (.of0 _ _ (.nil 1 (by decide))))
  refine enter_see1 ceg (.cons _ _ _ _ (seeG _) (.cons _ _ _ _ (see_same rfl) .nil)) rfl rfl ?_
  simp -implicitDefEqProofs only [go_sem, ax, ay, a0]
  refine cp_drawG (id := 10) 5 (fun S => getO S n = some ⟨5, [dV 1 n1 n2 e]⟩ ∧ getO S 0 = some ⟨5, [eA e]⟩) mixed rfl ?_
  (refine expG_get 0 (dV 1 n1 n2 e) rfl ?_ ?_ ⟨ax _ _, a0 _⟩ ?_ ?_); (· decide +kernel); (· decide +kernel); (· (rintro S ⟨hS0, hS1⟩; simp -implicitDefEqProofs only [go_sem, hS0, hS1, *])); try simp -implicitDefEqProofs only [go_sem, List.set_cons_succ, List.set_cons_zero]
  (refine expG_get 1 (eA e) rfl ?_ ?_ ⟨ax _ _, a0 _⟩ ?_ ?_); (· decide +kernel); (· decide +kernel); (· (rintro S ⟨hS0, hS1⟩; simp -implicitDefEqProofs only [go_sem, hS0, hS1, *])); try simp -implicitDefEqProofs only [go_sem, List.set_cons_succ, List.set_cons_zero]
  ((with_reducible refine expG_one 2 ?_ ?_); (· decide +kernel); try simp -implicitDefEqProofs only [go_sem, *])
  ((with_reducible refine enter_pu (ct) ?_ ?_ ?_); (· rfl); (· rfl); try simp -implicitDefEqProofs only [go_sem, *])
  ((with_reducible refine expG_one 3 ?_ ?_); (· decide +kernel); try simp -implicitDefEqProofs only [go_sem, *])
  refine enter_see1 cee (.cons _ _ _ _ (see_dV hn1 hn2 (hHx _)) (.cons _ _ _ _ (see_same rfl) .nil)) rfl rfl ?_
  simp -implicitDefEqProofs only [go_sem, ax, a0]
  (repeat' (first | ((with_reducible first | refine gon ?_ ?_ | refine gos ?_ ?_ | refine cdn ?_ ?_ | refine cds ?_ ?_ | refine gpn ?_ ?_ | refine gps ?_ ?_) <;> intro h <;> (try simp only [dt, df, gi, gt] at h) <;> try simp -implicitDefEqProofs only [go_sem, *]) | ((with_reducible refine And.intro ?_ ?_); (· first | omega | (simp only [List.length_take]; omega)); try simp -implicitDefEqProofs only [go_sem, *]) | first | ((with_reducible refine expG_one 4 ?_ ?_); (· decide +kernel); try simp -implicitDefEqProofs only [go_sem, *]) | ((with_reducible refine expG_end ?_ ?_); (· decide +kernel); try simp -implicitDefEqProofs only [go_sem, *])))
  refine enter_mid 1 (A := [some ⟨5, [eA e]⟩]) (X0 := dS 0 e) (X1 := dS 0 (markE 1 e)) (B := some ⟨5, [dV 1 n1 n2 e]⟩ :: []) (args' := [dE 0 e, I 1]) (markEngine_c e hm) ?_ rfl dS_mark_len (by rw [dS_len]; exact cl_dS (by omega)) ?_ rfl ?_ ?_ ?_
  · rw [sh_dS, hA]
  · rw [← dS_mark_len (k := 1), dS_len]
    exact cl_dS (by omega)
  · rw [List.map_cons, sh_dE, Nat.add_zero, ← dV_eq hn1 hn2, List.map_cons, List.map_nil, sh_prim]
  · simp only [List.all_cons, List.all_nil, Bool.and_true]
    rw [dS_len]
    exact Bool.and_eq_true_iff.2 ⟨cl_dE (by omega), rfl⟩
  obtain ⟨A2, hA2⟩ : ∃ A2, [some ⟨5, [eA e]⟩] ++ shS 1 (dS 0 (markE 1 e)) = A2 := ⟨_, rfl⟩
  have hn' : A2.length = n := by
    have h1 : A = [some ⟨5, [eA e]⟩] ++ dS 1 e := hA
    rw [← hA2, ← hn, h1, List.length_append, List.length_append, shS_len, dS_mark_len, dS_len, dS_len]
  have a0' : ∀ T, getO (A2 ++ T) 0 = some ⟨5, [eA e]⟩ := fun T => by rw [← hA2]; rfl
  have ax' : ∀ (o : AObj) T, getO (A2 ++ some o :: T) n = some o := fun o T => by rw [← hn']; exact getO_app
  have k1 : ¬ (1 + (cntE e : Int) < 0) := by omega
  have k2 : ¬ (1 + (ld.length : Int) < 0) := by omega
  have k3 : ((1 + (ld.length : Int)) != (1 + (ld.length : Int))) = false := by simp
  rw [hA2]
  clear hA2
  simp -implicitDefEqProofs only [go_sem, a0', ax', k1]
  refine enter_see1 ceg (.cons _ _ _ _ (seeG _) (.cons _ _ _ _ (see_same rfl) .nil)) rfl rfl ?_
  simp -implicitDefEqProofs only [go_sem, a0', ax']
  (repeat' (first | ((with_reducible first | refine gon ?_ ?_ | refine gos ?_ ?_ | refine cdn ?_ ?_ | refine cds ?_ ?_ | refine gpn ?_ ?_ | refine gps ?_ ?_) <;> intro h <;> (try simp only [dt, df, gi, gt] at h) <;> try simp -implicitDefEqProofs only [go_sem, *]) | ((with_reducible refine And.intro ?_ ?_); (· first | omega | (simp only [List.length_take]; omega)); try simp -implicitDefEqProofs only [go_sem, *]) | fail))
  have hmz := markIntS_n 1
  have hhz := heldIntS_n 1
  (repeat' (first | ((with_reducible first | refine gon ?_ ?_ | refine gos ?_ ?_ | refine cdn ?_ ?_ | refine cds ?_ ?_ | refine gpn ?_ ?_ | refine gps ?_ ?_) <;> intro h <;> (try simp only [dt, df, gi, gt] at h) <;> try simp -implicitDefEqProofs only [go_sem, *]) | ((with_reducible refine And.intro ?_ ?_); (· first | omega | (simp only [List.length_take]; omega)); try simp -implicitDefEqProofs only [go_sem, *]) | first | ((with_reducible refine enter_pu (hmz) ?_ ?_ ?_); (· rfl); (· rfl); try simp -implicitDefEqProofs only [go_sem, *]) | ((with_reducible refine enter_pu (hhz) ?_ ?_ ?_); (· rfl); (· rfl); try simp -implicitDefEqProofs only [go_sem, *]) | ((with_reducible refine enter_pu (ct) ?_ ?_ ?_); (· rfl); (· rfl); try simp -implicitDefEqProofs only [go_sem, *]) | ((with_reducible refine enter_pu (cI) ?_ ?_ ?_); (· rfl); (· rfl); try simp -implicitDefEqProofs only [go_sem, *]) | ((with_reducible refine enter_pu (ceg) ?_ ?_ ?_); (· rfl); (· rfl); try simp -implicitDefEqProofs only [go_sem, *])))
  all_goals exact fin_pu rfl rfl
theorem ExactLoads_law (e : Eng) (hs : e.small) (tx : Int) : Fn1 Tryz.prog 7 [eA e, I tx] (Bo true) := by
  by_cases h0 : szE e 1048576 < 0
  · have cz := szEngine_fn e 1048576 (by omega) hs
    refine fn1_of Tryz.func7 rfl rfl ?_
    simp -implicitDefEqProofs only [go_sem, Tryz.f7, h0]
    (repeat' (first | ((with_reducible first | refine gon ?_ ?_ | refine gos ?_ ?_ | refine cdn ?_ ?_ | refine cds ?_ ?_ | refine gpn ?_ ?_ | refine gps ?_ ?_) <;> intro h <;> (try simp only [dt, df, gi, gt] at h) <;> try simp -implicitDefEqProofs only [go_sem, *]) | ((with_reducible refine And.intro ?_ ?_); (· first | omega | (simp only [List.length_take]; omega)); try simp -implicitDefEqProofs only [go_sem, *]) | ((with_reducible refine enter_pu (cz) ?_ ?_ ?_); (· rfl); (· rfl); try simp -implicitDefEqProofs only [go_sem, *])))
    exact fin_pu rfl rfl
  have cS := EndLoadsS_fn e tx hs
  have cI := EndLoadsI_fn e tx hs
  unfold loadsE at cS cI
  rcases hok : okE e with _ | _
  · rw [if_neg (by rw [hok]; decide)] at cS cI
    exact FnExactEndLoads_no e tx [] hs h0 (by simp) rfl cS cI (EndLoadsI_none e tx hok hs)
  · rw [if_pos hok] at cS cI
    exact FnExactEndLoads_ok e tx _ hs h0 (ldTo_len _ _ _) cS cI (EndLoadsI_own e tx hok hs)
end Go.Proofs.YtagjgjhkdihodaaGreat.Am
end
