/- Lemmas and walks: Ki. No conditions. -/
import Derived.Test.YtfcnajhanjhonaaGreatJ6
import Derived.Test.YtfcnajhanjhonaaGreatJ2
import Derived.Laws.Strings
section
set_option linter.unusedVariables false
set_option linter.unusedSimpArgs false
set_option maxRecDepth 100000
set_option maxHeartbeats 8000000
namespace Go.Proofs.YtfcnajhanjhonaaGreat.Am
open Go Go.RowKit Go.Proofs
attribute [local go_sem_proc] Nat.reduceAdd Nat.reduceSub Nat.reduceMul Nat.reduceLT Nat.reduceLeDiff Nat.reduceEqDiff Int.reduceBEq Int.reduceBNe Int.reduceNeg Int.reduceSub Int.reduceLE Int.reduceLT
attribute [local go_sem_proc ↓] reduceIte
attribute [local congr] opsP_congr codeP_congr AWP_congr afterR_congr preP_congr afterPre_congr gPre_congr gOps_congr condP_congr stepE_congr
attribute [local go_sem] ty_int ty_bool ty_str ty_u8 ty_ints ty_bytes ty_page ty_pages ty_lpage ty_lpages ty_rec ty_recs ty_lrec ty_lrecs ty_eng ty_leng
attribute [local go_sem] true_and and_true beq_true' beq_false' toNat_cast Int.natCast_nonneg Bool.not_not Bool.not_true Bool.not_false decide_true decide_false Bool.or_false Bool.false_or Bool.or_true Bool.true_or Bool.and_false Bool.false_and Nat.zero_add Int.toNat_of_nonneg wrap_succ wrap_m1 wrap_nat succ_m1 cast0 succ_pos' succ_ne' succ_bne' ge_iff_le gt_iff_lt if_true if_false
attribute [local go_sem] slt_r slt_I slt_p ty_rd ty_ev ty_evs
/-- How many of the first n records are a transaction's. -/
def cntT (l : List Rc) (tx : Int) : Nat → Nat
  | 0 => 0
  | n + 1 => cntT l tx n + if (at' l (n : Int)).tx = tx then 1 else 0
theorem cntT_mono (l : List Rc) (tx : Int) {m : Nat} : ∀ {n : Nat}, m ≤ n → cntT l tx m ≤ cntT l tx n
  | 0, h => by rw [show m = 0 by omega]; exact Nat.le_refl _
  | n + 1, h => by
    by_cases e : m = n + 1
    · rw [e]; exact Nat.le_refl _
    · have := cntT_mono l tx (m := m) (n := n) (by omega)
      rw [cntT]
      omega
theorem cntT_sum (l : List Rc) : ∀ n, cntT l 1 n + cntT l 2 n + cntT l 3 n ≤ n
  | 0 => Nat.le_refl _
  | n + 1 => by
    have := cntT_sum l n
    simp only [cntT]
    (repeat' split) <;> omega
theorem undosN_cnt {l : List Rc} {tx : Int} (h : logOk l = true) (n : Nat) : Mine l tx n → (undosN l n).length ≤ cntT l tx n := by
  induction n using Nat.strongRecOn with
  | _ n ih =>
    intro hm
    have hle := backN_le l n
    rcases hb : backN l n with _ | b
    · rw [undosN_zero hb]
      exact Nat.zero_le _
    · have hmb := mine_back h n hm
      rw [hb] at hmb
      obtain ⟨h1, h2⟩ := mine_succ.1 hmb
      obtain ⟨m, hmb2, hp, hmm⟩ := mine_prev h hmb
      rw [undosN_succ hb hp hmb2, List.length_cons]
      have h3 := ih m (by omega) hmm
      have h4 := cntT_mono l tx hmb2
      have h5 := cntT_mono l tx (show b + 1 ≤ n by omega)
      rw [cntT, if_pos h2] at h5
      omega
theorem needTo_len {l : List Rc} (h : logOk l = true) : needTo l 3 ≤ l.length + 3 := by
  have hf : ∀ t : Int, needFor l t ≤ 1 + cntT l t l.length := fun t => by
    have h1 := undosN_cnt h (lastN l t) (mine_last l t)
    have h2 := cntT_mono l t (lastN_le l t)
    unfold needFor
    split <;> omega
  have := cntT_sum l l.length
  have h1 := hf 1
  have h2 := hf 2
  have h3 := hf 3
  rw [needTo_3]
  omega
theorem fits_small {e : Eng} {r : Rc} (hi : Inv e) (hc : e.can r) (hl : e.log.length ≤ 60) : e.fits r = true := by
  have hx : logOk (e.alog r) = true := logOk_app hi.log (by omega) hc.ok rfl hc.next hc.tx
  have h1 := needTo_len hx
  have h2 := alog_len e r
  unfold Eng.fits
  rw [decide_eq_true_eq]
  omega
theorem PutNot_law (l : List Int) (hl : l.length < 4611686018427387904) (hb : Byt l) : Fn1 Tryz.prog 5 [bts l] (Bo true) := by
  refine fn1_of Tryz.func5 rfl rfl ?_
  by_cases hlen : (1048576 : Int) < (l.length : Int)
  · simp -implicitDefEqProofs only [go_sem, Tryz.f5, hlen]
    exact fin_pu rfl rfl
  simp -implicitDefEqProofs only [go_sem, Tryz.f5, hlen]
  (repeat' (first | ((with_reducible first | refine gon ?_ ?_ | refine gos ?_ ?_ | refine cdn ?_ ?_ | refine cds ?_ ?_ | refine gpn ?_ ?_ | refine gps ?_ ?_) <;> intro h <;> (try simp only [dt, df, gi, gt] at h) <;> try simp -implicitDefEqProofs only [go_sem, *]) | ((with_reducible refine And.intro ?_ ?_); (· first | omega | (simp only [List.length_take]; omega)); try simp -implicitDefEqProofs only [go_sem, *]) | ((with_reducible refine enter_at ([] : List Nat) (M2 := []) (DrawChangePut_c l hl hb) (by decide) ?_ ?_ rfl ?_); (· repeat (first | exact Keeps.nil | (refine Keeps.cons _ _ _ _ _ rfl rfl ?_ ?_; (· first | exact a2_p _ _ | exact a2_1 rfl | exact a2_I _ _)))); (· repeat (first | exact All2.nil | (refine All2.cons _ _ _ _ ?_ ?_; (· first | exact rnT_eX rfl rfl | exact rnT_prim | exact rnT_sl | exact rnT_ref rfl | exact rnT_agg rfl | exact rnT_own rfl | exact rnT_eX5 rfl rfl)))); rintro ⟨e, tx, page, slot, val⟩ hdr; try simp -implicitDefEqProofs only [go_sem, *])))
  simp only at hdr
  have hsm := dr_small hdr
  have c1 := ChangePutI_fn e tx page slot val hsm
  have c2 := ChangePutS_fn e tx page slot val hsm
  have c0 := okS e hsm
  have c4 := mayI e tx page hsm
  unfold putD at c1 c2
  rcases hok : okE e with _ | _
  · rw [hok] at c0 c1 c2
    rw [if_neg (by simp)] at c1 c2
    have c3 := ltSame zeroE zeroE_small
    clear hok c4
    (repeat' (first | ((with_reducible first | refine gon ?_ ?_ | refine gos ?_ ?_ | refine cdn ?_ ?_ | refine cds ?_ ?_ | refine gpn ?_ ?_ | refine gps ?_ ?_) <;> intro h <;> (try simp only [dt, df, gi, gt] at h) <;> try simp -implicitDefEqProofs only [go_sem, *]) | ((with_reducible refine And.intro ?_ ?_); (· first | omega | (simp only [List.length_take]; omega)); try simp -implicitDefEqProofs only [go_sem, *]) | first | ((with_reducible refine enter_pu (c1) ?_ ?_ ?_); (· rfl); (· rfl); try simp -implicitDefEqProofs only [go_sem, *]) | ((with_reducible refine enter_pu (c2) ?_ ?_ ?_); (· rfl); (· rfl); try simp -implicitDefEqProofs only [go_sem, *]) | ((with_reducible refine enter_pu (c3) ?_ ?_ ?_); (· rfl); (· rfl); try simp -implicitDefEqProofs only [go_sem, *]) | ((with_reducible refine enter_pu (c0) ?_ ?_ ?_); (· rfl); (· rfl); try simp -implicitDefEqProofs only [go_sem, *])))
    all_goals exact fin_pu rfl rfl
  rw [if_pos hok] at c1 c2
  rw [hok] at c0
  have hi := inv_of_ok hok
  have hme : mayE e tx page = mayB e tx page := by unfold mayE; rw [hok, Bool.true_and]
  rw [hme] at c4
  clear hme
  have c3 := ltSame e hsm
  -- where nothing can be put
  have no : e.put tx page slot val = (e, false) → ∀ {x : Eng × Bool}, e.put tx page slot val = x → x = (e, false) := fun h _ h2 => h2.symm.trans h
  rcases hmay : mayB e tx page with _ | _
  · have e1 : e.put tx page slot val = (e, false) := by
      unfold Eng.put Eng.putB
      rw [hmay]
      rfl
    rw [hmay] at c4
    rw [e1] at c1 c2
    simp only at c1 c2
    clear hok hi hmay e1 no
    (repeat' (first | ((with_reducible first | refine gon ?_ ?_ | refine gos ?_ ?_ | refine cdn ?_ ?_ | refine cds ?_ ?_ | refine gpn ?_ ?_ | refine gps ?_ ?_) <;> intro h <;> (try simp only [dt, df, gi, gt] at h) <;> try simp -implicitDefEqProofs only [go_sem, *]) | ((with_reducible refine And.intro ?_ ?_); (· first | omega | (simp only [List.length_take]; omega)); try simp -implicitDefEqProofs only [go_sem, *]) | first | ((with_reducible refine enter_pu (c1) ?_ ?_ ?_); (· rfl); (· rfl); try simp -implicitDefEqProofs only [go_sem, *]) | ((with_reducible refine enter_pu (c2) ?_ ?_ ?_); (· rfl); (· rfl); try simp -implicitDefEqProofs only [go_sem, *]) | ((with_reducible refine enter_pu (c3) ?_ ?_ ?_); (· rfl); (· rfl); try simp -implicitDefEqProofs only [go_sem, *]) | ((with_reducible refine enter_pu (c0) ?_ ?_ ?_); (· rfl); (· rfl); try simp -implicitDefEqProofs only [go_sem, *]) | ((with_reducible refine enter_pu (c4) ?_ ?_ ?_); (· rfl); (· rfl); try simp -implicitDefEqProofs only [go_sem, *]) | fail))
    all_goals exact fin_pu rfl rfl
  obtain ⟨-, ht, hp⟩ := mayB_iff hmay
  obtain ⟨k, hk, rfl⟩ := page_nat hp
  rw [hmay] at c4
  have hke : (k : Int) < (e.mem.length : Int) := by have := hi.mem.len; omega
  have hkm : k < e.mem.length := by omega
  have how := (hi.mem.rg k hk).own
  by_cases hB : e.putB tx k slot val = true
  · have hB2 := hB
    unfold Eng.putB isIn at hB2
    simp only [Bool.and_eq_true, decide_eq_true_eq] at hB2
    obtain ⟨⟨⟨_, hs⟩, hv⟩, ho⟩ := hB2
    have ho1 : 0 < (at' e.mem (k : Int)).owner := by omega
    have hs1 : 0 ≤ slot := hs.1
    have hs2 : slot < 3 := by omega
    have hv1 : 0 ≤ val := hv.1
    have hv2 : val ≤ 9 := hv.2
    by_cases hf : e.fits (e.putR tx k slot val) = true
    · have e1 : e.put tx k slot val = (e.added (e.putR tx k slot val), true) := by unfold Eng.put Eng.add; rw [if_pos hB, if_pos hf]
      have hi2 := put_inv hi tx k slot val
      rw [e1] at c1 c2 hi2
      have c5 := ltSame _ (small_of_inv hi2)
      simp only at c1 c2 c5
      clear hok hi hmay e1 no hs hv ho hB hf hi2 how
      (repeat' (first | ((with_reducible first | refine gon ?_ ?_ | refine gos ?_ ?_ | refine cdn ?_ ?_ | refine cds ?_ ?_ | refine gpn ?_ ?_ | refine gps ?_ ?_) <;> intro h <;> (try simp only [dt, df, gi, gt] at h) <;> try simp -implicitDefEqProofs only [go_sem, *]) | ((with_reducible refine And.intro ?_ ?_); (· first | omega | (simp only [List.length_take]; omega)); try simp -implicitDefEqProofs only [go_sem, *]) | first | ((with_reducible refine enter_pu (c1) ?_ ?_ ?_); (· rfl); (· rfl); try simp -implicitDefEqProofs only [go_sem, *]) | ((with_reducible refine enter_pu (c2) ?_ ?_ ?_); (· rfl); (· rfl); try simp -implicitDefEqProofs only [go_sem, *]) | ((with_reducible refine enter_pu (c5) ?_ ?_ ?_); (· rfl); (· rfl); try simp -implicitDefEqProofs only [go_sem, *]) | ((with_reducible refine enter_pu (c0) ?_ ?_ ?_); (· rfl); (· rfl); try simp -implicitDefEqProofs only [go_sem, *]) | ((with_reducible refine enter_pu (c4) ?_ ?_ ?_); (· rfl); (· rfl); try simp -implicitDefEqProofs only [go_sem, *]) | fail))
      all_goals exact fin_pu rfl rfl
    · have e1 : e.put tx k slot val = (e, false) := by unfold Eng.put Eng.add; rw [if_pos hB, if_neg hf]
      have h60 : (60 : Int) < (e.log.length : Int) := by
        have : ¬ e.log.length ≤ 60 := fun h => hf (fits_small hi (can_put hi hB) h)
        omega
      rw [e1] at c1 c2
      simp only at c1 c2
      clear hok hi hmay e1 no hs hv ho hB hf how
      (repeat' (first | ((with_reducible first | refine gon ?_ ?_ | refine gos ?_ ?_ | refine cdn ?_ ?_ | refine cds ?_ ?_ | refine gpn ?_ ?_ | refine gps ?_ ?_) <;> intro h <;> (try simp only [dt, df, gi, gt] at h) <;> try simp -implicitDefEqProofs only [go_sem, *]) | ((with_reducible refine And.intro ?_ ?_); (· first | omega | (simp only [List.length_take]; omega)); try simp -implicitDefEqProofs only [go_sem, *]) | first | ((with_reducible refine enter_pu (c1) ?_ ?_ ?_); (· rfl); (· rfl); try simp -implicitDefEqProofs only [go_sem, *]) | ((with_reducible refine enter_pu (c2) ?_ ?_ ?_); (· rfl); (· rfl); try simp -implicitDefEqProofs only [go_sem, *]) | ((with_reducible refine enter_pu (c3) ?_ ?_ ?_); (· rfl); (· rfl); try simp -implicitDefEqProofs only [go_sem, *]) | ((with_reducible refine enter_pu (c0) ?_ ?_ ?_); (· rfl); (· rfl); try simp -implicitDefEqProofs only [go_sem, *]) | ((with_reducible refine enter_pu (c4) ?_ ?_ ?_); (· rfl); (· rfl); try simp -implicitDefEqProofs only [go_sem, *]) | fail))
      all_goals exact fin_pu rfl rfl
  · have e1 : e.put tx k slot val = (e, false) := by unfold Eng.put; rw [if_neg hB]
    rw [e1] at c1 c2
    simp only at c1 c2
    have hnot : ¬ (0 < (at' e.mem (k : Int)).owner ∧ 0 ≤ slot ∧ slot < 3 ∧ 0 ≤ val ∧ val ≤ 9) := by
      rintro ⟨h1, h2, h3, h4, h5⟩
      refine hB ?_
      unfold Eng.putB isIn
      simp only [Bool.and_eq_true, decide_eq_true_eq]
      exact ⟨⟨⟨hmay, by omega⟩, by omega⟩, by omega⟩
    clear hok hi e1 no hB how hmay
    by_cases h1 : 0 < (at' e.mem (k : Int)).owner
    rotate_left
    · clear hnot
      (repeat' (first | ((with_reducible first | refine gon ?_ ?_ | refine gos ?_ ?_ | refine cdn ?_ ?_ | refine cds ?_ ?_ | refine gpn ?_ ?_ | refine gps ?_ ?_) <;> intro h <;> (try simp only [dt, df, gi, gt] at h) <;> try simp -implicitDefEqProofs only [go_sem, *]) | ((with_reducible refine And.intro ?_ ?_); (· first | omega | (simp only [List.length_take]; omega)); try simp -implicitDefEqProofs only [go_sem, *]) | first | ((with_reducible refine enter_pu (c1) ?_ ?_ ?_); (· rfl); (· rfl); try simp -implicitDefEqProofs only [go_sem, *]) | ((with_reducible refine enter_pu (c2) ?_ ?_ ?_); (· rfl); (· rfl); try simp -implicitDefEqProofs only [go_sem, *]) | ((with_reducible refine enter_pu (c3) ?_ ?_ ?_); (· rfl); (· rfl); try simp -implicitDefEqProofs only [go_sem, *]) | ((with_reducible refine enter_pu (c0) ?_ ?_ ?_); (· rfl); (· rfl); try simp -implicitDefEqProofs only [go_sem, *]) | ((with_reducible refine enter_pu (c4) ?_ ?_ ?_); (· rfl); (· rfl); try simp -implicitDefEqProofs only [go_sem, *]) | fail))
      all_goals exact fin_pu rfl rfl
    by_cases h2 : 0 ≤ slot
    rotate_left
    · clear hnot
      (repeat' (first | ((with_reducible first | refine gon ?_ ?_ | refine gos ?_ ?_ | refine cdn ?_ ?_ | refine cds ?_ ?_ | refine gpn ?_ ?_ | refine gps ?_ ?_) <;> intro h <;> (try simp only [dt, df, gi, gt] at h) <;> try simp -implicitDefEqProofs only [go_sem, *]) | ((with_reducible refine And.intro ?_ ?_); (· first | omega | (simp only [List.length_take]; omega)); try simp -implicitDefEqProofs only [go_sem, *]) | first | ((with_reducible refine enter_pu (c1) ?_ ?_ ?_); (· rfl); (· rfl); try simp -implicitDefEqProofs only [go_sem, *]) | ((with_reducible refine enter_pu (c2) ?_ ?_ ?_); (· rfl); (· rfl); try simp -implicitDefEqProofs only [go_sem, *]) | ((with_reducible refine enter_pu (c3) ?_ ?_ ?_); (· rfl); (· rfl); try simp -implicitDefEqProofs only [go_sem, *]) | ((with_reducible refine enter_pu (c0) ?_ ?_ ?_); (· rfl); (· rfl); try simp -implicitDefEqProofs only [go_sem, *]) | ((with_reducible refine enter_pu (c4) ?_ ?_ ?_); (· rfl); (· rfl); try simp -implicitDefEqProofs only [go_sem, *]) | fail))
      all_goals exact fin_pu rfl rfl
    by_cases h3 : slot < 3
    rotate_left
    · clear hnot
      (repeat' (first | ((with_reducible first | refine gon ?_ ?_ | refine gos ?_ ?_ | refine cdn ?_ ?_ | refine cds ?_ ?_ | refine gpn ?_ ?_ | refine gps ?_ ?_) <;> intro h <;> (try simp only [dt, df, gi, gt] at h) <;> try simp -implicitDefEqProofs only [go_sem, *]) | ((with_reducible refine And.intro ?_ ?_); (· first | omega | (simp only [List.length_take]; omega)); try simp -implicitDefEqProofs only [go_sem, *]) | first | ((with_reducible refine enter_pu (c1) ?_ ?_ ?_); (· rfl); (· rfl); try simp -implicitDefEqProofs only [go_sem, *]) | ((with_reducible refine enter_pu (c2) ?_ ?_ ?_); (· rfl); (· rfl); try simp -implicitDefEqProofs only [go_sem, *]) | ((with_reducible refine enter_pu (c3) ?_ ?_ ?_); (· rfl); (· rfl); try simp -implicitDefEqProofs only [go_sem, *]) | ((with_reducible refine enter_pu (c0) ?_ ?_ ?_); (· rfl); (· rfl); try simp -implicitDefEqProofs only [go_sem, *]) | ((with_reducible refine enter_pu (c4) ?_ ?_ ?_); (· rfl); (· rfl); try simp -implicitDefEqProofs only [go_sem, *]) | fail))
      all_goals exact fin_pu rfl rfl
    by_cases h4 : 0 ≤ val
    rotate_left
    · clear hnot
      (repeat' (first | ((with_reducible first | refine gon ?_ ?_ | refine gos ?_ ?_ | refine cdn ?_ ?_ | refine cds ?_ ?_ | refine gpn ?_ ?_ | refine gps ?_ ?_) <;> intro h <;> (try simp only [dt, df, gi, gt] at h) <;> try simp -implicitDefEqProofs only [go_sem, *]) | ((with_reducible refine And.intro ?_ ?_); (· first | omega | (simp only [List.length_take]; omega)); try simp -implicitDefEqProofs only [go_sem, *]) | first | ((with_reducible refine enter_pu (c1) ?_ ?_ ?_); (· rfl); (· rfl); try simp -implicitDefEqProofs only [go_sem, *]) | ((with_reducible refine enter_pu (c2) ?_ ?_ ?_); (· rfl); (· rfl); try simp -implicitDefEqProofs only [go_sem, *]) | ((with_reducible refine enter_pu (c3) ?_ ?_ ?_); (· rfl); (· rfl); try simp -implicitDefEqProofs only [go_sem, *]) | ((with_reducible refine enter_pu (c0) ?_ ?_ ?_); (· rfl); (· rfl); try simp -implicitDefEqProofs only [go_sem, *]) | ((with_reducible refine enter_pu (c4) ?_ ?_ ?_); (· rfl); (· rfl); try simp -implicitDefEqProofs only [go_sem, *]) | fail))
      all_goals exact fin_pu rfl rfl
    by_cases h5 : val ≤ 9
    rotate_left
    · clear hnot
      (repeat' (first | ((with_reducible first | refine gon ?_ ?_ | refine gos ?_ ?_ | refine cdn ?_ ?_ | refine cds ?_ ?_ | refine gpn ?_ ?_ | refine gps ?_ ?_) <;> intro h <;> (try simp only [dt, df, gi, gt] at h) <;> try simp -implicitDefEqProofs only [go_sem, *]) | ((with_reducible refine And.intro ?_ ?_); (· first | omega | (simp only [List.length_take]; omega)); try simp -implicitDefEqProofs only [go_sem, *]) | first | ((with_reducible refine enter_pu (c1) ?_ ?_ ?_); (· rfl); (· rfl); try simp -implicitDefEqProofs only [go_sem, *]) | ((with_reducible refine enter_pu (c2) ?_ ?_ ?_); (· rfl); (· rfl); try simp -implicitDefEqProofs only [go_sem, *]) | ((with_reducible refine enter_pu (c3) ?_ ?_ ?_); (· rfl); (· rfl); try simp -implicitDefEqProofs only [go_sem, *]) | ((with_reducible refine enter_pu (c0) ?_ ?_ ?_); (· rfl); (· rfl); try simp -implicitDefEqProofs only [go_sem, *]) | ((with_reducible refine enter_pu (c4) ?_ ?_ ?_); (· rfl); (· rfl); try simp -implicitDefEqProofs only [go_sem, *]) | fail))
      all_goals exact fin_pu rfl rfl
    exact absurd ⟨h1, h2, h3, h4, h5⟩ hnot
end Go.Proofs.YtfcnajhanjhonaaGreat.Am
end
