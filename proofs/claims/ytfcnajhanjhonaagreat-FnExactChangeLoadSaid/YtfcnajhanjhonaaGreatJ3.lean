/- Lemmas and walks: Fd Dbt Dct Ed Pu3 Fe Ff Fg Fi Fj Fk Fl Fm Fn Fo Pq Pu4 Pu5 Pu6 Pu7 Fp Fh La Lb Lc. No conditions. -/
import Derived.Test.YtfcnajhanjhonaaGreatJ2
import Derived.Laws.Strings
import Derived.RangeFuncNested
import Derived.RangeFuncBound
import Derived.RangeFuncCalls
import Derived.RangeFuncLeaves
import Derived.RangeFuncBox
import Derived.Shelf.Abstract
import Derived.Shelf.RegionOpen
import Derived.WalkKit
import Derived.OwnWalkIn
import Derived.TacticsInMore
import Derived.LoopNIn
import Derived.LoopIn
section
set_option linter.unusedVariables false
set_option linter.unusedSimpArgs false
set_option maxRecDepth 100000
set_option maxHeartbeats 8000000
namespace Go.Proofs.YtfcnajhanjhonaaGreat.Am
open Go Go.RowKit Go.Proofs
attribute [local go_sem_proc] Nat.reduceAdd Nat.reduceSub Nat.reduceMul Nat.reduceLT Nat.reduceLeDiff Nat.reduceEqDiff Int.reduceBEq Int.reduceBNe Int.reduceNeg Int.reduceSub Int.reduceLE Int.reduceLT
attribute [local go_sem_proc ↓] reduceIte
attribute [local congr] opsP_congr codeP_congr AWP_congr afterR_congr preP_congr afterPre_congr gPre_congr gOps_congr condP_congr stepE_congr
attribute [local go_sem] ty_int ty_bool ty_str ty_u8 ty_ints ty_bytes ty_page ty_pages ty_lpage ty_lpages ty_rec ty_recs ty_lrec ty_lrecs ty_eng ty_leng
attribute [local go_sem] true_and and_true beq_true' beq_false' toNat_cast Int.natCast_nonneg Bool.not_not Bool.not_true Bool.not_false decide_true decide_false Bool.or_false Bool.false_or Bool.or_true Bool.true_or Bool.and_false Bool.false_and Nat.zero_add Int.toNat_of_nonneg wrap_succ wrap_m1 wrap_nat succ_m1 cast0 succ_pos' succ_ne' succ_bne' ge_iff_le gt_iff_lt if_true if_false
theorem l3Has_fn (l : List Rc) (tx page : Int) (hw : Wf l) : Fn1 Tryz.prog 70 [recs l, I tx, I page] (Bo (hasIn l tx page)) := by
  have hb : l.length < 4611686018427387904 := by have := hw.len; omega
  refine fn1_of Tryz.func70 rfl rfl ?_
  simp -implicitDefEqProofs only [go_sem, Tryz.f70]
  (repeat' (first | ((with_reducible first | refine gon ?_ ?_ | refine gos ?_ ?_ | refine cdn ?_ ?_ | refine cds ?_ ?_ | refine gpn ?_ ?_ | refine gps ?_ ?_) <;> intro h <;> (try simp only [dt, df, gi, gt] at h) <;> try simp -implicitDefEqProofs only [go_sem, *]) | ((with_reducible refine And.intro ?_ ?_); (· first | omega | (simp only [List.length_take]; omega)); try simp -implicitDefEqProofs only [go_sem, *]) | ((with_reducible refine enter_pu (l3Last_fn l tx ?_) ?_ ?_ ?_); (· (first | assumption | omega | (simp; omega))); (· rfl); (· rfl); try simp -implicitDefEqProofs only [go_sem, *])))
  refine cp_loop (fun n : Nat => ⟨(recs l :: I tx :: I page :: .any :: .any :: .any :: Bo false :: I (n : Int) :: .any :: .any :: .any :: .any :: .any :: .any :: .any :: .any :: .any :: .any :: .any :: .any :: .any :: .any :: .any :: .any :: .any :: .any :: .any :: []), [], []⟩) (fun n => n ≤ l.length ∧ ((chain l n).any fun n => decide ((at' l ((n : Int) - 1)).page = page)) = hasIn l tx page) (fun n => n) (lastN l tx) ?_ ?_ ?_
  · simp [hasIn, lastN_le]
  · refine wk_tm ?_
    repeat (first | exact WL.nil | (with_reducible refine WL.any _ _ _ ?_) | (with_reducible refine WL.same _ _ _ ?_) | (refine WL.eq _ _ _ _ rfl ?_))
  · rintro n ⟨hi, hg⟩
    rcases n with _ | n
    · simp -implicitDefEqProofs only [go_sem, true_and]
      (repeat' (first | ((with_reducible first | refine gon ?_ ?_ | refine gos ?_ ?_ | refine cdn ?_ ?_ | refine cds ?_ ?_ | refine gpn ?_ ?_ | refine gps ?_ ?_) <;> intro h <;> (try simp only [dt, df, gi, gt] at h) <;> try simp -implicitDefEqProofs only [go_sem, *]) | ((with_reducible refine And.intro ?_ ?_); (· first | omega | (simp only [List.length_take]; omega)); try simp -implicitDefEqProofs only [go_sem, *]) | fail))
      all_goals first | ((with_reducible refine ⟨0, ⟨by omega, ?_⟩, by omega, wk_tm ?_⟩); (· (rw [← hg]; clear hg; (simp_all [chain_zero]) <;> (first | omega | (rw [Bool.eq_iff_iff]; simp; done) | (rw [Bool.eq_iff_iff]; simp; omega) | (split <;> (first | rfl | omega | (simp_all; done)))))); (· repeat (first | exact WL.nil | (with_reducible refine WL.any _ _ _ ?_) | (with_reducible refine WL.same _ _ _ ?_) | (refine WL.eq _ _ _ _ rfl ?_)))) | ((with_reducible refine fin_pu ?_ ?_); (· (rw [← hg]; first | done | (clear hg; (simp_all [chain_zero]) <;> (first | omega | (rw [Bool.eq_iff_iff]; simp; done) | (rw [Bool.eq_iff_iff]; simp; omega) | (split <;> (first | rfl | omega | (simp_all; done))))))); (· rfl))
    · obtain ⟨m, hm, hp⟩ := hw.prev n (by omega)
      have hb : n < 4611686018427387904 := by omega
      simp -implicitDefEqProofs only [go_sem, hb, hp]
      (repeat' (first | ((with_reducible first | refine gon ?_ ?_ | refine gos ?_ ?_ | refine cdn ?_ ?_ | refine cds ?_ ?_ | refine gpn ?_ ?_ | refine gps ?_ ?_) <;> intro h <;> (try simp only [dt, df, gi, gt] at h) <;> try simp -implicitDefEqProofs only [go_sem, *]) | ((with_reducible refine And.intro ?_ ?_); (· first | omega | (simp only [List.length_take]; omega)); try simp -implicitDefEqProofs only [go_sem, *]) | fail))
      all_goals first | ((with_reducible refine ⟨m, ⟨by omega, ?_⟩, by omega, wk_tm ?_⟩); (· (rw [← hg]; clear hg; (simp_all [chain_succ hp hm, succ_m1]) <;> (first | omega | (rw [Bool.eq_iff_iff]; simp; done) | (rw [Bool.eq_iff_iff]; simp; omega) | (split <;> (first | rfl | omega | (simp_all; done)))))); (· repeat (first | exact WL.nil | (with_reducible refine WL.any _ _ _ ?_) | (with_reducible refine WL.same _ _ _ ?_) | (refine WL.eq _ _ _ _ rfl ?_)))) | ((with_reducible refine fin_pu ?_ ?_); (· (rw [← hg]; first | done | (clear hg; (simp_all [chain_succ hp hm, succ_m1]) <;> (first | omega | (rw [Bool.eq_iff_iff]; simp; done) | (rw [Bool.eq_iff_iff]; simp; omega) | (split <;> (first | rfl | omega | (simp_all; done))))))); (· rfl))
theorem l11Back_fn (l : List Rc) (n : Nat) (hw : Wf l) (hn : n ≤ l.length) : Fn1 Tryz.prog 114 [recs l, I n] (I (backN l n)) := by
  have hb : l.length < 4611686018427387904 := by have := hw.len; omega
  refine fn1_of Tryz.func114 rfl rfl ?_
  simp -implicitDefEqProofs only [go_sem, Tryz.f114]
  refine cp_loop (fun k : Nat => ⟨(recs l :: I (k : Int) :: .any :: .any :: I 0 :: .any :: .any :: .any :: .any :: .any :: .any :: .any :: .any :: .any :: .any :: .any :: .any :: .any :: .any :: .any :: .any :: .any :: .any :: .any :: .any :: []), [], []⟩) (fun k => k ≤ l.length ∧ backN l k = backN l n) (fun n => n) n ?_ ?_ ?_
  · exact ⟨hn, rfl⟩
  · refine wk_tm ?_
    repeat (first | exact WL.nil | (with_reducible refine WL.any _ _ _ ?_) | (with_reducible refine WL.same _ _ _ ?_) | (refine WL.eq _ _ _ _ rfl ?_))
  · rintro k ⟨hi, hg⟩
    rcases k with _ | k
    · simp -implicitDefEqProofs only [go_sem, true_and]
      (repeat' (first | ((with_reducible first | refine gon ?_ ?_ | refine gos ?_ ?_ | refine cdn ?_ ?_ | refine cds ?_ ?_ | refine gpn ?_ ?_ | refine gps ?_ ?_) <;> intro h <;> (try simp only [dt, df, gi, gt] at h) <;> try simp -implicitDefEqProofs only [go_sem, *]) | ((with_reducible refine And.intro ?_ ?_); (· first | omega | (simp only [List.length_take]; omega)); try simp -implicitDefEqProofs only [go_sem, *]) | fail))
      all_goals first | ((with_reducible refine ⟨0, ⟨by omega, ?_⟩, by omega, wk_tm ?_⟩); (· (rw [← hg]; clear hg; (simp_all [backN_zero]) <;> (first | omega | (rw [Bool.eq_iff_iff]; simp; done) | (rw [Bool.eq_iff_iff]; simp; omega) | (split <;> (first | rfl | omega | (simp_all; done)))))); (· repeat (first | exact WL.nil | (with_reducible refine WL.any _ _ _ ?_) | (with_reducible refine WL.same _ _ _ ?_) | (refine WL.eq _ _ _ _ rfl ?_)))) | ((with_reducible refine fin_pu ?_ ?_); (· (rw [← hg]; first | done | (clear hg; (simp_all [backN_zero]) <;> (first | omega | (rw [Bool.eq_iff_iff]; simp; done) | (rw [Bool.eq_iff_iff]; simp; omega) | (split <;> (first | rfl | omega | (simp_all; done))))))); (· rfl))
    · obtain ⟨m, hm, hp⟩ := hw.prev k (by omega)
      obtain ⟨m', hm', hp'⟩ := hw.next k (by omega)
      have hb : k < 4611686018427387904 := by omega
      simp -implicitDefEqProofs only [go_sem, hb, hp, hp']
      (repeat' (first | ((with_reducible first | refine gon ?_ ?_ | refine gos ?_ ?_ | refine cdn ?_ ?_ | refine cds ?_ ?_ | refine gpn ?_ ?_ | refine gps ?_ ?_) <;> intro h <;> (try simp only [dt, df, gi, gt] at h) <;> try simp -implicitDefEqProofs only [go_sem, *]) | ((with_reducible refine And.intro ?_ ?_); (· first | omega | (simp only [List.length_take]; omega)); try simp -implicitDefEqProofs only [go_sem, *]) | fail))
      all_goals first
        | ((with_reducible refine fin_pu ?_ ?_); (· (rw [← hg, backN_hit (by simp_all)]; done)); (· rfl))
        | ((with_reducible refine ⟨m', ⟨by omega, ?_⟩, by omega, ?_⟩); (· rw [← hg, backN_undo (by simpa using h) hp' hm']); (· refine WkN.trans (wk_tm ?_) (wk_trunc (S := []) (Nat.le_refl _) rfl (by first | rfl | (simp only [sltB, List.all_cons, List.all_nil, slt_p, slt_I, slt_r, Bool.and_true]; done) | (simp only [sltB, List.all_cons, List.all_nil, slt_p, slt_I, slt_r, Bool.and_true]; rfl))); repeat (first | exact WL.nil | (with_reducible refine WL.any _ _ _ ?_) | (with_reducible refine WL.same _ _ _ ?_) | (refine WL.eq _ _ _ _ rfl ?_))))
        | ((with_reducible refine ⟨m, ⟨by omega, ?_⟩, by omega, ?_⟩); (· rw [← hg, backN_prev (by simp_all) (by simp_all) (by simp_all) hp hm]); (· refine WkN.trans (wk_tm ?_) (wk_trunc (S := []) (Nat.le_refl _) rfl (by first | rfl | (simp only [sltB, List.all_cons, List.all_nil, slt_p, slt_I, slt_r, Bool.and_true]; done) | (simp only [sltB, List.all_cons, List.all_nil, slt_p, slt_I, slt_r, Bool.and_true]; rfl))); repeat (first | exact WL.nil | (with_reducible refine WL.any _ _ _ ?_) | (with_reducible refine WL.same _ _ _ ?_) | (refine WL.eq _ _ _ _ rfl ?_))))
theorem l11Lock_fn (e : Eng) (page : Int) (hw : Wf e.log) : Fn1 Tryz.prog 122 [eA e, I page] (I (lockFrom e.log page 0)) := by
  refine fn1_of Tryz.func122 rfl rfl ?_
  simp -implicitDefEqProofs only [go_sem, Tryz.f122]
  refine cp_loop (fun t : Nat => ⟨(eA e :: I page :: .ref 0 5 0 0 :: .any :: I 0 :: I (((t + 1 : Nat) : Int)) :: .any :: .any :: .any :: .any :: .any :: .any :: .any :: .any :: .any :: .any :: []), [some ⟨5, [eA e]⟩], []⟩) (fun t => t ≤ 3 ∧ lockFrom e.log page t = lockFrom e.log page 0) (fun t => 3 - t) 0 ?_ ?_ ?_
  · simp
  · refine wk_tm ?_
    repeat (first | exact WL.nil | (with_reducible refine WL.any _ _ _ ?_) | (with_reducible refine WL.same _ _ _ ?_) | (refine WL.eq _ _ _ _ rfl ?_))
  · rintro t ⟨hi, hg⟩
    have hb : t + 1 < 4611686018427387904 := by omega
    simp -implicitDefEqProofs only [go_sem, true_and]
    (repeat' (first | ((with_reducible first | refine gon ?_ ?_ | refine gos ?_ ?_ | refine cdn ?_ ?_ | refine cds ?_ ?_ | refine gpn ?_ ?_ | refine gps ?_ ?_) <;> intro h <;> (try simp only [dt, df, gi, gt] at h) <;> try simp -implicitDefEqProofs only [go_sem, *]) | ((with_reducible refine And.intro ?_ ?_); (· first | omega | (simp only [List.length_take]; omega)); try simp -implicitDefEqProofs only [go_sem, *]) | ((with_reducible refine enter_pu (l3Has_fn e.log _ _ hw) ?_ ?_ ?_); (· rfl); (· rfl); try simp -implicitDefEqProofs only [go_sem, *])))
    all_goals first | ((with_reducible refine ⟨t + 1, ⟨by omega, ?_⟩, by omega, ?_⟩); (· (rw [← hg, lockFrom_lt (by omega : t < 3)]; first | done | (clear hg; (simp_all [true_and]) <;> (first | omega | (rw [Bool.eq_iff_iff]; simp; done) | (rw [Bool.eq_iff_iff]; simp; omega) | (split <;> (first | rfl | omega | (simp_all; done))))))); (· refine wk_tm ?_; repeat (first | exact WL.nil | (with_reducible refine WL.any _ _ _ ?_) | (with_reducible refine WL.same _ _ _ ?_) | (refine WL.eq _ _ _ _ rfl ?_)))) | ((with_reducible refine fin_pu ?_ ?_); (· (rw [← hg, lockFrom_lt (by omega : t < 3)]; first | done | (clear hg; (simp_all [true_and]) <;> (first | omega | (rw [Bool.eq_iff_iff]; simp; done) | (rw [Bool.eq_iff_iff]; simp; omega) | (split <;> (first | rfl | omega | (simp_all; done))))))); (· rfl)) | ((with_reducible refine fin_pu ?_ ?_); (· (rw [← hg, lockFrom_ge (by omega : ¬ t < 3)]; first | done | (clear hg; (simp_all [true_and]) <;> (first | omega | (rw [Bool.eq_iff_iff]; simp; done) | (rw [Bool.eq_iff_iff]; simp; omega) | (split <;> (first | rfl | omega | (simp_all; done))))))); (· rfl))
theorem l11Last_fn (l : List Rc) (page : Int) (hb : l.length < 4611686018427387904) : Fn1 Tryz.prog 117 [recs l, I page] (I (pageTo l page l.length)) := by
  refine fn1_of Tryz.func117 rfl rfl ?_
  simp -implicitDefEqProofs only [go_sem, Tryz.f117, hb]
  refine cp_loop (fun i : Nat => ⟨(recs l :: I page :: .any :: .any :: I 0 :: I ((i : Int) - 1) :: .any :: .any :: .any :: .any :: .any :: .any :: .any :: .any :: .any :: .any :: .any :: .any :: .any :: .any :: .any :: .any :: .any :: .any :: .any :: .any :: .any :: .any :: .any :: .any :: .any :: .any :: .any :: .any :: .any :: .any :: .any :: .any :: []), [], []⟩) (fun i => i ≤ l.length ∧ pageTo l page i = pageTo l page l.length) (fun i => i) l.length ?_ ?_ ?_
  · simp
  · refine wk_tm ?_
    repeat (first | exact WL.nil | (with_reducible refine WL.any _ _ _ ?_) | (with_reducible refine WL.same _ _ _ ?_) | (refine WL.eq _ _ _ _ rfl ?_))
  · rintro i ⟨hi, hg⟩
    rcases i with _ | i
    · simp -implicitDefEqProofs only [go_sem, true_and]
      (repeat' (first | ((with_reducible first | refine gon ?_ ?_ | refine gos ?_ ?_ | refine cdn ?_ ?_ | refine cds ?_ ?_ | refine gpn ?_ ?_ | refine gps ?_ ?_) <;> intro h <;> (try simp only [dt, df, gi, gt] at h) <;> try simp -implicitDefEqProofs only [go_sem, *]) | ((with_reducible refine And.intro ?_ ?_); (· first | omega | (simp only [List.length_take]; omega)); try simp -implicitDefEqProofs only [go_sem, *]) | fail))
      all_goals first | ((with_reducible refine ⟨0, ⟨by omega, ?_⟩, by omega, wk_tm ?_⟩); (· (rw [← hg]; clear hg; (simp_all [pageTo]) <;> (first | omega | (rw [Bool.eq_iff_iff]; simp; done) | (rw [Bool.eq_iff_iff]; simp; omega) | (split <;> (first | rfl | omega | (simp_all; done)))))); (· repeat (first | exact WL.nil | (with_reducible refine WL.any _ _ _ ?_) | (with_reducible refine WL.same _ _ _ ?_) | (refine WL.eq _ _ _ _ rfl ?_)))) | ((with_reducible refine fin_pu ?_ ?_); (· (rw [← hg]; first | done | (clear hg; (simp_all [pageTo]) <;> (first | omega | (rw [Bool.eq_iff_iff]; simp; done) | (rw [Bool.eq_iff_iff]; simp; omega) | (split <;> (first | rfl | omega | (simp_all; done))))))); (· rfl))
    · have hb : i < 4611686018427387904 := by omega
      simp -implicitDefEqProofs only [go_sem, true_and]
      (repeat' (first | ((with_reducible first | refine gon ?_ ?_ | refine gos ?_ ?_ | refine cdn ?_ ?_ | refine cds ?_ ?_ | refine gpn ?_ ?_ | refine gps ?_ ?_) <;> intro h <;> (try simp only [dt, df, gi, gt] at h) <;> try simp -implicitDefEqProofs only [go_sem, *]) | ((with_reducible refine And.intro ?_ ?_); (· first | omega | (simp only [List.length_take]; omega)); try simp -implicitDefEqProofs only [go_sem, *]) | ((with_reducible refine enter_pu (l2Changes_fn _) ?_ ?_ ?_); (· rfl); (· rfl); try simp -implicitDefEqProofs only [go_sem, *])))
      all_goals first | ((with_reducible refine ⟨i, ⟨by omega, ?_⟩, by omega, wk_tm ?_⟩); (· (rw [← hg]; clear hg; (simp_all [pageTo, chg]) <;> (first | omega | (rw [Bool.eq_iff_iff]; simp; done) | (rw [Bool.eq_iff_iff]; simp; omega) | (split <;> (first | rfl | omega | (simp_all; done)))))); (· repeat (first | exact WL.nil | (with_reducible refine WL.any _ _ _ ?_) | (with_reducible refine WL.same _ _ _ ?_) | (refine WL.eq _ _ _ _ rfl ?_)))) | ((with_reducible refine fin_pu ?_ ?_); (· (rw [← hg]; first | done | (clear hg; (simp_all [pageTo, chg]) <;> (first | omega | (rw [Bool.eq_iff_iff]; simp; done) | (rw [Bool.eq_iff_iff]; simp; omega) | (split <;> (first | rfl | omega | (simp_all; done))))))); (· rfl))
theorem l11Loaded_fn (l : List Rc) (page : Int) (hw : Wf l) : Fn1 Tryz.prog 68 [recs l, I page] (Bo (loadedIn l page)) := by
  have hb : l.length < 4611686018427387904 := by have := hw.len; omega
  refine fn1_of Tryz.func68 rfl rfl ?_
  simp -implicitDefEqProofs only [go_sem, Tryz.f68]
  refine cp_loop (fun t : Nat => ⟨(recs l :: I page :: .any :: .any :: Bo false :: I (((t + 1 : Nat) : Int)) :: .any :: .any :: .any :: .any :: .any :: .any :: .any :: .any :: .any :: .any :: .any :: .any :: .any :: .any :: .any :: .any :: .any :: .any :: .any :: .any :: .any :: .any :: .any :: .any :: .any :: .any :: .any :: .any :: .any :: .any :: .any :: .any :: .any :: []), [], []⟩) (fun t => t ≤ 3 ∧ anyFrom (fun t => loadIn l ((t + 1 : Nat) : Int) page) t 3 = loadedIn l page) (fun t => 3 - t) 0 ?_ ?_ ?_
  · simp [loadedIn]
  · refine wk_tm ?_
    repeat (first | exact WL.nil | (with_reducible refine WL.any _ _ _ ?_) | (with_reducible refine WL.same _ _ _ ?_) | (refine WL.eq _ _ _ _ rfl ?_))
  · rintro t ⟨hi, hg⟩
    have hb : t + 1 < 4611686018427387904 := by omega
    simp -implicitDefEqProofs only [go_sem, true_and]
    (repeat' (first | ((with_reducible first | refine gon ?_ ?_ | refine gos ?_ ?_ | refine cdn ?_ ?_ | refine cds ?_ ?_ | refine gpn ?_ ?_ | refine gps ?_ ?_) <;> intro h <;> (try simp only [dt, df, gi, gt] at h) <;> try simp -implicitDefEqProofs only [go_sem, *]) | ((with_reducible refine And.intro ?_ ?_); (· first | omega | (simp only [List.length_take]; omega)); try simp -implicitDefEqProofs only [go_sem, *]) | ((with_reducible refine enter_pu (l3Last_fn l _ ?_) ?_ ?_ ?_); (· (first | assumption | omega | (simp; omega))); (· rfl); (· rfl); try simp -implicitDefEqProofs only [go_sem, *])))
    rotate_left
    · ((with_reducible refine fin_pu ?_ ?_); (· (rw [← hg, anyFrom_ge (by omega : ¬ t < 3)])); (· rfl))
    refine cp_loop (fun n : Nat => ⟨(recs l :: I page :: .any :: .any :: Bo false :: I (((t + 1 : Nat) : Int)) :: I (n : Int) :: .any :: .any :: .any :: .any :: .any :: .any :: .any :: .any :: .any :: .any :: .any :: .any :: .any :: .any :: .any :: .any :: .any :: .any :: .any :: .any :: .any :: .any :: .any :: .any :: .any :: .any :: .any :: .any :: .any :: .any :: .any :: .any :: []), [], []⟩) (fun n => n ≤ l.length ∧ ((chain l n).any fun n => decide ((at' l ((n : Int) - 1)).kind = 3) && decide ((at' l ((n : Int) - 1)).page = page)) = loadIn l ((t + 1 : Nat) : Int) page) (fun n => n) (lastN l ((t + 1 : Nat) : Int)) ?_ ?_ ?_
    · simp [loadIn, lastN_le]
    · refine wk_tm ?_
      repeat (first | exact WL.nil | (with_reducible refine WL.any _ _ _ ?_) | (with_reducible refine WL.same _ _ _ ?_) | (refine WL.eq _ _ _ _ rfl ?_))
    · rintro n ⟨hi', hg'⟩
      rcases n with _ | n
      · simp -implicitDefEqProofs only [go_sem, hb]
        (repeat' (first | ((with_reducible first | refine gon ?_ ?_ | refine gos ?_ ?_ | refine cdn ?_ ?_ | refine cds ?_ ?_ | refine gpn ?_ ?_ | refine gps ?_ ?_) <;> intro h <;> (try simp only [dt, df, gi, gt] at h) <;> try simp -implicitDefEqProofs only [go_sem, *]) | ((with_reducible refine And.intro ?_ ?_); (· first | omega | (simp only [List.length_take]; omega)); try simp -implicitDefEqProofs only [go_sem, *]) | fail))
        all_goals first | ((with_reducible refine ⟨t + 1, ⟨by omega, ?_⟩, by omega, ?_⟩); (· (rw [← hg, anyFrom_lt (by omega : t < 3), ← hg', chain_zero]; first | done | (clear hg; (simp_all [true_and]) <;> (first | omega | (rw [Bool.eq_iff_iff]; simp; done) | (rw [Bool.eq_iff_iff]; simp; omega) | (split <;> (first | rfl | omega | (simp_all; done))))))); (· refine wk_tm ?_; repeat (first | exact WL.nil | (with_reducible refine WL.any _ _ _ ?_) | (with_reducible refine WL.same _ _ _ ?_) | (refine WL.eq _ _ _ _ rfl ?_)))) | ((with_reducible refine fin_pu ?_ ?_); (· (rw [← hg, anyFrom_lt (by omega : t < 3), ← hg', chain_zero]; first | done | (clear hg; (simp_all [true_and]) <;> (first | omega | (rw [Bool.eq_iff_iff]; simp; done) | (rw [Bool.eq_iff_iff]; simp; omega) | (split <;> (first | rfl | omega | (simp_all; done))))))); (· rfl)) | ((with_reducible refine fin_pu ?_ ?_); (· (rw [← hg, true_and]; first | done | (clear hg; (simp_all [true_and]) <;> (first | omega | (rw [Bool.eq_iff_iff]; simp; done) | (rw [Bool.eq_iff_iff]; simp; omega) | (split <;> (first | rfl | omega | (simp_all; done))))))); (· rfl))
      · obtain ⟨m, hm, hp⟩ := hw.prev n (by omega)
        have hb' : n < 4611686018427387904 := by omega
        simp -implicitDefEqProofs only [go_sem, hb', hp]
        (repeat' (first | ((with_reducible first | refine gon ?_ ?_ | refine gos ?_ ?_ | refine cdn ?_ ?_ | refine cds ?_ ?_ | refine gpn ?_ ?_ | refine gps ?_ ?_) <;> intro h <;> (try simp only [dt, df, gi, gt] at h) <;> try simp -implicitDefEqProofs only [go_sem, *]) | ((with_reducible refine And.intro ?_ ?_); (· first | omega | (simp only [List.length_take]; omega)); try simp -implicitDefEqProofs only [go_sem, *]) | fail))
        all_goals first
          | ((with_reducible refine ⟨m, ⟨by omega, ?_⟩, by omega, ?_⟩); (· (rw [← hg', chain_succ hp hm]; clear hg hg'; (simp_all [succ_m1]) <;> (first | omega | (rw [Bool.eq_iff_iff]; simp; done) | (rw [Bool.eq_iff_iff]; simp; omega) | (split <;> (first | rfl | omega | (simp_all; done)))))); (· refine wk_tm ?_; repeat (first | exact WL.nil | (with_reducible refine WL.any _ _ _ ?_) | (with_reducible refine WL.same _ _ _ ?_) | (refine WL.eq _ _ _ _ rfl ?_))))
          | ((with_reducible refine fin_pu ?_ ?_); (· (rw [← hg, anyFrom_lt (by omega : t < 3), ← hg', chain_succ hp hm]; clear hg hg'; (simp_all [succ_m1]) <;> (first | omega | (rw [Bool.eq_iff_iff]; simp; done) | (rw [Bool.eq_iff_iff]; simp; omega) | (split <;> (first | rfl | omega | (simp_all; done)))))); (· rfl))
theorem l11Need_fn (l : List Rc) (hw : Wf l) : Fn1 Tryz.prog 65 [recs l] (I (needTo l 3)) := by
  have hlen := hw.len
  have hb : l.length < 4611686018427387904 := by omega
  refine fn1_of Tryz.func65 rfl rfl ?_
  simp -implicitDefEqProofs only [go_sem, Tryz.f65]
  refine cp_loop (fun t : Nat => ⟨(recs l :: .any :: I 0 :: I (needTo l t) :: I (((t + 1 : Nat) : Int)) :: .any :: .any :: .any :: .any :: .any :: .any :: .any :: .any :: .any :: .any :: .any :: .any :: .any :: .any :: .any :: .any :: .any :: .any :: .any :: .any :: .any :: .any :: .any :: .any :: .any :: .any :: .any :: .any :: []), [], []⟩) (fun t => t ≤ 3) (fun t => 3 - t) 0 ?_ ?_ ?_
  · simp
  · refine wk_tm ?_
    repeat (first | exact WL.nil | (with_reducible refine WL.any _ _ _ ?_) | (with_reducible refine WL.same _ _ _ ?_) | (refine WL.eq _ _ _ _ rfl ?_))
  · rintro t hi
    have hb : t + 1 < 4611686018427387904 := by omega
    have hnd : needTo l t < 4611686018427387904 := by
      have := needTo_le l hw t
      omega
    simp -implicitDefEqProofs only [go_sem, true_and]
    (repeat' (first | ((with_reducible first | refine gon ?_ ?_ | refine gos ?_ ?_ | refine cdn ?_ ?_ | refine cds ?_ ?_ | refine gpn ?_ ?_ | refine gps ?_ ?_) <;> intro h <;> (try simp only [dt, df, gi, gt] at h) <;> try simp -implicitDefEqProofs only [go_sem, *]) | ((with_reducible refine And.intro ?_ ?_); (· first | omega | (simp only [List.length_take]; omega)); try simp -implicitDefEqProofs only [go_sem, *]) | first | ((with_reducible refine enter_pu (l3Last_fn l _ ?_) ?_ ?_ ?_); (· (first | assumption | omega | (simp; omega))); (· rfl); (· rfl); try simp -implicitDefEqProofs only [go_sem, *]) | ((with_reducible refine enter_pu (l11Back_fn l _ hw (lastN_le l _)) ?_ ?_ ?_); (· rfl); (· rfl); try simp -implicitDefEqProofs only [go_sem, *])))
    all_goals try ((with_reducible refine fin_pu ?_ ?_); (· (rw [show t = 3 by omega])); (· rfl))
    all_goals
      refine cp_loop (fun x : Nat × Nat => ⟨(recs l :: .any :: I 0 :: I (x.2 : Int) :: I (((t + 1 : Nat) : Int)) :: I (backN l x.1) :: .any :: .any :: .any :: .any :: .any :: .any :: .any :: .any :: .any :: .any :: .any :: .any :: .any :: .any :: .any :: .any :: .any :: .any :: .any :: .any :: .any :: .any :: .any :: .any :: .any :: .any :: .any :: []), [], []⟩) (fun x => x.1 ≤ l.length ∧ x.2 + (undosN l x.1).length = needTo l (t + 1)) (fun x => x.1) (lastN l ((t + 1 : Nat) : Int), needTo l t + if 0 < lastN l ((t + 1 : Nat) : Int) then 1 else 0) ?_ ?_ ?_
      · exact ⟨lastN_le l _, by simp only [needTo, needFor]; omega⟩
      · have e : (0 < lastN l ((t + 1 : Nat) : Int)) = ((0 : Int) < (lastN l ((t + 1 : Nat) : Int) : Int)) := propext ⟨fun h' => by omega, fun h' => by omega⟩
        simp only [e, h, if_true, if_false, Nat.add_zero]
        refine wk_tm ?_; repeat (first | exact WL.nil | (with_reducible refine WL.any _ _ _ ?_) | (with_reducible refine WL.same _ _ _ ?_) | (refine WL.eq _ _ _ _ rfl ?_))
      · rintro ⟨x, c⟩ ⟨hx, hc⟩
        simp only at hx hc
        have hle := needTo_le l hw (t + 1)
        have hb2 : c < 4611686018427387904 := by omega
        rcases hbk : backN l x with _ | b
        · rw [undosN_zero hbk] at hc
          simp -implicitDefEqProofs only [go_sem, hb, hb2, hbk]
          (repeat' (first | ((with_reducible first | refine gon ?_ ?_ | refine gos ?_ ?_ | refine cdn ?_ ?_ | refine cds ?_ ?_ | refine gpn ?_ ?_ | refine gps ?_ ?_) <;> intro h <;> (try simp only [dt, df, gi, gt] at h) <;> try simp -implicitDefEqProofs only [go_sem, *]) | ((with_reducible refine And.intro ?_ ?_); (· first | omega | (simp only [List.length_take]; omega)); try simp -implicitDefEqProofs only [go_sem, *]) | fail))
          refine ⟨t + 1, by omega, by omega, ?_⟩
          rw [show c = needTo l (t + 1) by simpa using hc]
          refine wk_tm ?_; repeat (first | exact WL.nil | (with_reducible refine WL.any _ _ _ ?_) | (with_reducible refine WL.same _ _ _ ?_) | (refine WL.eq _ _ _ _ rfl ?_))
        · have hbx := backN_le l x
          obtain ⟨m, hm, hp⟩ := hw.prev b (by omega)
          have hb3 : b < 4611686018427387904 := by omega
          rw [undosN_succ hbk hp hm, List.length_cons] at hc
          simp -implicitDefEqProofs only [go_sem, hb, hb2, hb3, hbk, hp]
          (repeat' (first | ((with_reducible first | refine gon ?_ ?_ | refine gos ?_ ?_ | refine cdn ?_ ?_ | refine cds ?_ ?_ | refine gpn ?_ ?_ | refine gps ?_ ?_) <;> intro h <;> (try simp only [dt, df, gi, gt] at h) <;> try simp -implicitDefEqProofs only [go_sem, *]) | ((with_reducible refine And.intro ?_ ?_); (· first | omega | (simp only [List.length_take]; omega)); try simp -implicitDefEqProofs only [go_sem, *]) | ((with_reducible refine enter_pu (l11Back_fn l _ hw (by omega)) ?_ ?_ ?_); (· rfl); (· rfl); try simp -implicitDefEqProofs only [go_sem, *])))
          refine ⟨(m, c + 1), ⟨by simp only; omega, by simp only; omega⟩, by simp only; omega, ?_⟩
          refine wk_tm ?_; repeat (first | exact WL.nil | (with_reducible refine WL.any _ _ _ ?_) | (with_reducible refine WL.same _ _ _ ?_) | (refine WL.eq _ _ _ _ rfl ?_))
end Go.Proofs.YtfcnajhanjhonaaGreat.Am
end
section
set_option linter.unusedVariables false
set_option linter.unusedSimpArgs false
namespace Go.Proofs.YtfcnajhanjhonaaGreat.Am
open Go Go.RowKit
section
@[go_sem] theorem map_iD_av (l : List Int) : (l.map iD).map D.av = l.map I := by rw [List.map_map]; rfl
@[go_sem] theorem map_pD_av (l : List Pg) : (l.map pD).map D.av = l.map pA := by rw [List.map_map]; rfl
@[go_sem] theorem map_rD_av (l : List Rc) : (l.map rD).map D.av = l.map rA := by rw [List.map_map]; rfl
section
variable {T : TypeId → Option TI} {S : Store}
def makeE (te : Option TI) (l c : AV) : OpR := match te with
      | some te => match l, c with
        | .prim (.int .i64 n), .prim (.int .i64 m) => .new (n = m ∧ 0 ≤ n ∧ te.bytes * n ≤ 140737488355328 ∧ n ≤ 9223372036854775807) ⟨te.zs.length, List.replicate n.toNat te.zav⟩ (fun i => .own i te.zs.length 0 n.toNat)
        | _, _ => .stuck
      | none => .stuck
def makeO (T : TypeId → Option TI) (o : Option TI) (l c : AV) : OpR := match o with
  | some ti => match ti.sh with
    | .slice e => makeE (T e) l c
    | _ => .stuck
  | none => .stuck
@[go_sem] theorem makeR_eq {t : TypeId} {l c : AV} : makeR T t l c = makeO T (T t) l c := by simp only [makeR, makeO, makeE]; rfl
@[go_sem] theorem makeO_some {b : Bool} {zs : List Value} {n : Nat} {e : TypeId} {l c : AV} : makeO T (some ⟨b, zs, n, .slice e⟩) l c = makeE (T e) l c := rfl
@[go_sem] theorem makeE_some {te : TI} {n m : Int} : makeE (some te) (.prim (.int .i64 n)) (.prim (.int .i64 m)) = .new (n = m ∧ 0 ≤ n ∧ te.bytes * n ≤ 140737488355328 ∧ n ≤ 9223372036854775807) ⟨te.zs.length, List.replicate n.toNat te.zav⟩ (fun i => .own i te.zs.length 0 n.toNat) := rfl
def bsE (te : Option TI) (tm : List AV) (len : Nat) (parts : Array (Nat × Operand)) : OpR := match te with
      | some te => .new (parts.toList.map (·.1) = List.range len ∧ len * te.zs.length ≤ 16777216 ∧ (parts.toList.map fun p => ev tm p.2).all (fun x => x.ok && x.cells.length == te.zs.length) = true)
          ⟨te.zs.length, parts.toList.map fun p => ev tm p.2⟩ (fun i => .own i te.zs.length 0 len)
      | none => .stuck
def bsO (T : TypeId → Option TI) (tm : List AV) (o : Option TI) (len : Nat) (parts : Array (Nat × Operand)) : OpR := match o with
  | some ti => match ti.sh with
    | .slice e => bsE (T e) tm len parts
    | _ => .stuck
  | none => .stuck
@[go_sem] theorem bsR_eq {tm : List AV} {t : TypeId} {len : Nat} {parts : Array (Nat × Operand)} : buildSliceR T tm t len parts = bsO T tm (T t) len parts := by simp only [buildSliceR, bsO, bsE]; rfl
@[go_sem] theorem bsO_some {tm : List AV} {b : Bool} {zs : List Value} {n : Nat} {e : TypeId} {len : Nat} {parts : Array (Nat × Operand)} : bsO T tm (some ⟨b, zs, n, .slice e⟩) len parts = bsE (T e) tm len parts := rfl
@[go_sem] theorem bsE_nil {te : TI} {tm : List AV} : bsE (some te) tm 0 #[] = .new True ⟨te.zs.length, []⟩ (fun i => .own i te.zs.length 0 0) := by simp [bsE]
@[go_sem] theorem bsE_one {te : TI} {tm : List AV} {x : Operand} : bsE (some te) tm 1 #[(0, x)] = .new (te.zs.length ≤ 16777216 ∧ (ev tm x).ok = true ∧ (ev tm x).cells.length = te.zs.length) ⟨te.zs.length, [ev tm x]⟩ (fun i => .own i te.zs.length 0 1) := by
  simp [bsE, List.range_succ]
def buildO (tm : List AV) (o : Option TI) (parts : List (Nat × Operand)) : OpR := match o with
  | some ti => match ti.sh with
    | .struct offs => if offs = List.range ti.zs.length then (match fillR offs tm (ti.zs.map .prim) parts with | some cs => .val True (.agg cs) | none => .stuck) else .stuck
    | _ => .stuck
  | none => .stuck
@[go_sem] theorem buildR_eq {tm : List AV} {t : TypeId} {parts : List (Nat × Operand)} : buildR T tm t parts.toArray = buildO tm (T t) parts := by simp only [buildR, buildO]; rfl
def fillV (o : Option (List AV)) : OpR := match o with | some cs => .val True (.agg cs) | none => .stuck
@[go_sem] theorem fillV_some {cs : List AV} : fillV (some cs) = .val True (.agg cs) := rfl
@[go_sem] theorem buildO_3 {tm : List AV} {b : Bool} {z0 z1 z2 : Value} {n : Nat} {parts : List (Nat × Operand)} : buildO tm (some ⟨b, [z0, z1, z2], n, .struct [0, 1, 2]⟩) parts = fillV (fillR [0, 1, 2] tm [.prim z0, .prim z1, .prim z2] parts) := rfl
@[go_sem] theorem buildO_5 {tm : List AV} {b : Bool} {z0 z1 z2 z3 z4 : Value} {n : Nat} {parts : List (Nat × Operand)} : buildO tm (some ⟨b, [z0, z1, z2, z3, z4], n, .struct [0, 1, 2, 3, 4]⟩) parts = fillV (fillR [0, 1, 2, 3, 4] tm [.prim z0, .prim z1, .prim z2, .prim z3, .prim z4] parts) := rfl
@[go_sem] theorem buildO_8 {tm : List AV} {b : Bool} {z0 z1 z2 z3 z4 z5 z6 z7 : Value} {n : Nat} {parts : List (Nat × Operand)} : buildO tm (some ⟨b, [z0, z1, z2, z3, z4, z5, z6, z7], n, .struct [0, 1, 2, 3, 4, 5, 6, 7]⟩) parts = fillV (fillR [0, 1, 2, 3, 4, 5, 6, 7] tm [.prim z0, .prim z1, .prim z2, .prim z3, .prim z4, .prim z5, .prim z6, .prim z7] parts) := rfl
def fillI (offs : List Nat) (tm : List AV) (cs : List AV) (r : List (Nat × Operand)) (off : Option Nat) (v : AV) : Option (List AV) := match off with
    | some off => if v.scalar && decide (off < cs.length) then fillR offs tm (cs.set off v) r else none
    | none => none
@[go_sem] theorem fillR_nil {offs : List Nat} {tm cs : List AV} : fillR offs tm cs [] = some cs := rfl
@[go_sem] theorem fillR_cons {offs : List Nat} {tm cs : List AV} {i : Nat} {x : Operand} {r : List (Nat × Operand)} : fillR offs tm cs ((i, x) :: r) = fillI offs tm cs r offs[i]? (ev tm x) := rfl
@[go_sem] theorem fillI_some {offs : List Nat} {tm cs : List AV} {r : List (Nat × Operand)} {off : Nat} {v : AV} : fillI offs tm cs r (some off) v = if v.scalar && decide (off < cs.length) then fillR offs tm (cs.set off v) r else none := rfl
def appN (te : TI) (y : Option (Prop × List AV)) : OpR := match y with
  | some (ψ, ys) => .new (ψ ∧ ys.length * te.bytes ≤ 140737488355328 ∧ 0 < te.bytes) ⟨te.zs.length, ys⟩ (fun i => .own i te.zs.length 0 ys.length)
  | none => .stuck
def appI (te : TI) (i z off len : Nat) (o : Option AObj) (y : Option (Prop × List AV)) : OpR := match y with
  | some (ψ, ys) => match o with
    | some o => .app (ψ ∧ off = 0 ∧ z = te.zs.length ∧ o.z = z ∧ o.es.length = len ∧ (len + ys.length) * te.bytes ≤ 140737488355328 ∧ 0 < te.bytes ∧ (o.es ++ ys).all (AV.pur i) = true) i ⟨o.z, o.es ++ ys⟩ (.own i z 0 (len + ys.length))
    | none => .stuck
  | none => .stuck
def appX (te : TI) (S : Store) (x : AV) (y : Option (Prop × List AV)) : OpR := match x with
  | .prim (.slice none 0 0) => appN te y
  | .own i z off len => appI te i z off len (getO S i) y
  | _ => .stuck
def appE (S : Store) (te : Option TI) (x y : AV) : OpR := match te with
  | some te => appX te S x (srcR S te.zs.length y)
  | none => .stuck
def appO (T : TypeId → Option TI) (S : Store) (o : Option TI) (x y : AV) : OpR := match o with
  | some ti => match ti.sh with
    | .slice e => appE S (T e) x y
    | _ => .stuck
  | none => .stuck
@[go_sem] theorem appR_eq {t : TypeId} {x y : AV} : appendR T S t x y = appO T S (T t) x y := by
  unfold appendR appO
  cases T t with
  | none => rfl
  | some ti =>
    cases hs : ti.sh <;> simp only [hs]
    rename_i e
    unfold appE
    cases T e with
    | none => rfl
    | some te =>
      simp only
      cases hy : srcR S te.zs.length y with
      | none => unfold appX appN appI; simp only; split <;> rfl
      | some q =>
        obtain ⟨ψ, ys⟩ := q
        unfold appX appN appI
        simp only
        split
        · rfl
        · split
          · rename_i heq; simp only [heq]
          · rename_i heq; simp only [heq]
        · rename_i h1 h2
          split
          · exact (h1 rfl).elim
          · exact (h2 _ _ _ _ rfl).elim
          · rfl
@[go_sem] theorem appO_some {b : Bool} {zs : List Value} {n : Nat} {e : TypeId} {x y : AV} : appO T S (some ⟨b, zs, n, .slice e⟩) x y = appE S (T e) x y := rfl
@[go_sem] theorem appE_some {te : TI} {x y : AV} : appE S (some te) x y = appX te S x (srcR S te.zs.length y) := rfl
@[go_sem] theorem appX_nil {te : TI} {y : Option (Prop × List AV)} : appX te S (.prim (.slice none 0 0)) y = appN te y := rfl
@[go_sem] theorem appX_own {te : TI} {i z off len : Nat} {y : Option (Prop × List AV)} : appX te S (.own i z off len) y = appI te i z off len (getO S i) y := rfl
@[go_sem] theorem appN_some {te : TI} {ψ : Prop} {ys : List AV} : appN te (some (ψ, ys)) = .new (ψ ∧ ys.length * te.bytes ≤ 140737488355328 ∧ 0 < te.bytes) ⟨te.zs.length, ys⟩ (fun i => .own i te.zs.length 0 ys.length) := rfl
@[go_sem] theorem appI_some {te : TI} {i z off len z0 : Nat} {es : List AV} {ψ : Prop} {ys : List AV} : appI te i z off len (some ⟨z0, es⟩) (some (ψ, ys)) = .app (ψ ∧ off = 0 ∧ z = te.zs.length ∧ z0 = z ∧ es.length = len ∧ (len + ys.length) * te.bytes ≤ 140737488355328 ∧ 0 < te.bytes ∧ (es ++ ys).all (AV.pur i) = true) i ⟨z0, es ++ ys⟩ (.own i z 0 (len + ys.length)) := rfl
def srcO (z z' off m : Nat) (o : Option AObj) : Option (Prop × List AV) := match o with
    | some o => some (z' = z ∧ o.z = z ∧ off + m ≤ o.es.length, (o.es.drop off).take m)
    | none => none
@[go_sem] theorem srcR_sl {z z' : Nat} {xs : List D} : srcR S z (.sl z' xs) = some (z' = z, xs.map D.av) := rfl
@[go_sem] theorem srcR_own {z j z' off m : Nat} : srcR S z (.own j z' off m) = srcO z z' off m (getO S j) := by simp only [srcR, srcO]; rfl
@[go_sem] theorem srcO_some {z z' off m z0 : Nat} {es : List AV} : srcO z z' off m (some ⟨z0, es⟩) = some (z' = z ∧ z0 = z ∧ off + m ≤ es.length, (es.drop off).take m) := rfl
@[go_sem] theorem srcR_nil {z : Nat} {a : Option Addr} {c : Nat} : srcR S z (.prim (.slice a 0 c)) = some (True, []) := rfl
end
@[go_sem] theorem all_app {i : Nat} {xs ys : List AV} : (xs ++ ys).all (AV.pur i) = (xs.all (AV.pur i) && ys.all (AV.pur i)) := List.all_append
@[go_sem] theorem pur_I {i : Nat} {l : List Int} : (l.map I).all (AV.pur i) = true := by simp [AV.pur, AV.nm0, AV.pur0]
@[go_sem] theorem pur_p {i : Nat} {l : List Pg} : (l.map pA).all (AV.pur i) = true := by simp [AV.pur, AV.nm0, AV.pur0]
@[go_sem] theorem pur_r {i : Nat} {l : List Rc} : (l.map rA).all (AV.pur i) = true := by simp [AV.pur, AV.nm0, AV.pur0]
@[go_sem] theorem pur_i1 {i : Nat} {n : Int} : AV.pur i (I n) = true := rfl
@[go_sem] theorem pur_p1 {i : Nat} {a b : Int} {v : List Int} : AV.pur i (.agg [I a, I b, ints v]) = true := rfl
@[go_sem] theorem pur_r1 {i : Nat} {a b c d e f g h : Int} : AV.pur i (.agg [I a, I b, I c, I d, I e, I f, I g, I h]) = true := rfl
@[go_sem] theorem app_I {l : List Int} {n : Int} : l.map I ++ [I n] = (l ++ [n]).map I := by simp
@[go_sem] theorem app_p {l : List Pg} {a b : Int} {v : List Int} : l.map pA ++ [.agg [I a, I b, ints v]] = (l ++ [(⟨a, b, v⟩ : Pg)]).map pA := by simp
@[go_sem] theorem app_nil {α : Type} {l : List α} : ([] : List α) ++ l = l := rfl
@[go_sem] theorem set_I {l : List Int} {k : Nat} {n : Int} : (l.map I).set k (I n) = (l.set k n).map I := by rw [List.map_set]
@[go_sem] theorem set_p {l : List Pg} {k : Nat} {a b : Int} {v : List Int} : (l.map pA).set k (.agg [I a, I b, ints v]) = (l.set k (⟨a, b, v⟩ : Pg)).map pA := by rw [List.map_set]
@[go_sem] theorem set_r {l : List Rc} {k : Nat} {a b c d e f g h : Int} : (l.map rA).set k (.agg [I a, I b, I c, I d, I e, I f, I g, I h]) = (l.set k (⟨a, b, c, d, e, f, g, h⟩ : Rc)).map rA := by rw [List.map_set]
attribute [go_sem] List.length_append List.length_set List.length_replicate
@[go_sem] theorem sc_prim {mv : List Nat} {v : Value} : AV.sc mv (.prim v) = .prim v := rfl
@[go_sem] theorem sc_sl {mv : List Nat} {z : Nat} {xs : List D} : AV.sc mv (.sl z xs) = .sl z xs := rfl
@[go_sem] theorem sc_any {mv : List Nat} : AV.sc mv .any = .any := rfl
@[go_sem] theorem sc_junk {mv : List Nat} : AV.sc mv .junk = .junk := rfl
@[go_sem] theorem sc_ro {mv : List Nat} {xs : List D} : AV.sc mv (.ro xs) = .ro xs := rfl
@[go_sem] theorem sc_tup {mv : List Nat} {xs : List AV} : AV.sc mv (.tup xs) = .tup (xs.map (AV.sc1 mv)) := rfl
@[go_sem] theorem sc_agg {mv : List Nat} {xs : List AV} : AV.sc mv (.agg xs) = .agg (xs.map (AV.sc0 mv)) := rfl
@[go_sem] theorem sc_ref {i j z k s : Nat} : AV.sc [i] (.ref j z k s) = if j = i then .junk else .ref j z k s := by simp [AV.sc, AV.sc1, AV.sc0]
@[go_sem] theorem sc_own {i j z k s : Nat} : AV.sc [i] (.own j z k s) = if j = i then .junk else .own j z k s := by simp [AV.sc, AV.sc1, AV.sc0]
@[go_sem] theorem sc0_prim {mv : List Nat} {v : Value} : AV.sc0 mv (.prim v) = .prim v := rfl
@[go_sem] theorem sc0_sl {mv : List Nat} {z : Nat} {xs : List D} : AV.sc0 mv (.sl z xs) = .sl z xs := rfl
@[go_sem] theorem sc0_own {i j z k s : Nat} : AV.sc0 [i] (.own j z k s) = if j = i then .junk else .own j z k s := by simp [AV.sc0]
@[go_sem] theorem sc0_ref {i j z k s : Nat} : AV.sc0 [i] (.ref j z k s) = if j = i then .junk else .ref j z k s := by simp [AV.sc0]
@[go_sem] theorem sc1_prim {mv : List Nat} {v : Value} : AV.sc1 mv (.prim v) = .prim v := rfl
@[go_sem] theorem sc1_sl {mv : List Nat} {z : Nat} {xs : List D} : AV.sc1 mv (.sl z xs) = .sl z xs := rfl
@[go_sem] theorem sc1_agg {mv : List Nat} {xs : List AV} : AV.sc1 mv (.agg xs) = .agg (xs.map (AV.sc0 mv)) := rfl
@[go_sem] theorem sc1_own {i j z k s : Nat} : AV.sc1 [i] (.own j z k s) = if j = i then .junk else .own j z k s := by simp [AV.sc1, AV.sc0]
@[go_sem] theorem sc1_I {mv : List Nat} {l : List Int} : (l.map I).map (AV.sc1 mv) = l.map I := by rw [List.map_map]; rfl
@[go_sem] theorem sc1_p {mv : List Nat} {l : List Pg} : (l.map pA).map (AV.sc1 mv) = l.map pA := by rw [List.map_map]; rfl
@[go_sem] theorem sc1_r {mv : List Nat} {l : List Rc} : (l.map rA).map (AV.sc1 mv) = l.map rA := by rw [List.map_map]; rfl
section
variable {P : Program}
def loadM {α : Type} (ti : TI) (z0 : Nat) (f : α → AV) (l : List α) (z k sub : Nat) : OpR := loadO ti (some ⟨z0, l.map f⟩) z k sub
@[go_sem 2000] theorem loadO_map {α : Type} {ti : TI} {z0 : Nat} {f : α → AV} {l : List α} {z k sub : Nat} : loadO ti (some ⟨z0, l.map f⟩) z k sub = loadM ti z0 f l z k sub := rfl
theorem getM {α : Type} [Inhabited α] {f : α → AV} {l : List α} {k : Nat} (h : k < l.length) : (l.map f).getD k .any = f (at' l (k : Int)) := by
  simp [at', List.getD, List.getElem?_eq_getElem h]
@[go_sem] theorem afterR_loadA {α : Type} [Inhabited α] {zs : List Value} {n : Nat} {sh : Sh} {z0 : Nat} {f : α → AV} {l : List α} {z k sub : Nat} {d : Tmp} {tm : List AV} {S : Store} {mv : List Nat} {K : St → Prop} :
    afterR P (loadM ⟨true, zs, n, sh⟩ z0 f l z k sub) (some d) ⟨tm, S, mv⟩ K = ((z0 = z ∧ k < l.length ∧ sub + zs.length ≤ z) ∧ K ⟨tm.set d (.agg (((f (at' l (k : Int))).cells.drop sub).take zs.length)), S, mv⟩) := by
  unfold loadM
  rw [loadO_agg, afterR_val, List.length_map]
  exact propext ⟨fun ⟨h, k⟩ => ⟨h, by rw [getM h.2.1] at k; exact k⟩, fun ⟨h, k⟩ => ⟨h, by rw [getM h.2.1]; exact k⟩⟩
@[go_sem] theorem afterR_load1 {α : Type} [Inhabited α] {zs : List Value} {n : Nat} {sh : Sh} {z0 : Nat} {f : α → AV} {l : List α} {z k sub : Nat} {d : Tmp} {tm : List AV} {S : Store} {mv : List Nat} {K : St → Prop} :
    afterR P (loadM ⟨false, zs, n, sh⟩ z0 f l z k sub) (some d) ⟨tm, S, mv⟩ K = ((z0 = z ∧ k < l.length ∧ sub < z) ∧ K ⟨tm.set d ((f (at' l (k : Int))).cells.getD sub .any), S, mv⟩) := by
  unfold loadM
  rw [loadO_one, afterR_val, List.length_map]
  exact propext ⟨fun ⟨h, k⟩ => ⟨h, by rw [getM h.2.1] at k; exact k⟩, fun ⟨h, k⟩ => ⟨h, by rw [getM h.2.1]; exact k⟩⟩
@[go_sem] theorem afterPre_loadA {α : Type} [Inhabited α] {S0 : Store} {zs : List Value} {n : Nat} {sh : Sh} {z0 : Nat} {f : α → AV} {l : List α} {z k sub : Nat} {d : Tmp} {tm : List AV} {N : List AObj} {K : List AV → List AObj → Prop} :
    afterPre P S0 (loadM ⟨true, zs, n, sh⟩ z0 f l z k sub) d tm N K = ((z0 = z ∧ k < l.length ∧ sub + zs.length ≤ z) ∧ (AV.agg (((f (at' l (k : Int))).cells.drop sub).take zs.length)).ltB S0.length = true ∧ K (tm.set d (.agg (((f (at' l (k : Int))).cells.drop sub).take zs.length))) N) := by
  unfold loadM
  rw [loadO_agg, afterPre_val, List.length_map]
  exact propext ⟨fun ⟨h, k⟩ => ⟨h, by rw [getM h.2.1] at k; exact k⟩, fun ⟨h, k⟩ => ⟨h, by rw [getM h.2.1]; exact k⟩⟩
@[go_sem] theorem afterPre_load1 {α : Type} [Inhabited α] {S0 : Store} {zs : List Value} {n : Nat} {sh : Sh} {z0 : Nat} {f : α → AV} {l : List α} {z k sub : Nat} {d : Tmp} {tm : List AV} {N : List AObj} {K : List AV → List AObj → Prop} :
    afterPre P S0 (loadM ⟨false, zs, n, sh⟩ z0 f l z k sub) d tm N K = ((z0 = z ∧ k < l.length ∧ sub < z) ∧ ((f (at' l (k : Int))).cells.getD sub .any).ltB S0.length = true ∧ K (tm.set d ((f (at' l (k : Int))).cells.getD sub .any)) N) := by
  unfold loadM
  rw [loadO_one, afterPre_val, List.length_map]
  exact propext ⟨fun ⟨h, k⟩ => ⟨h, by rw [getM h.2.1] at k; exact k⟩, fun ⟨h, k⟩ => ⟨h, by rw [getM h.2.1]; exact k⟩⟩
def storeM {α : Type} (ti : TI) (z0 : Nat) (f : α → AV) (l : List α) (v : AV) (i z k sub : Nat) : OpR := storeO ti (some ⟨z0, l.map f⟩) v i z k sub
@[go_sem 2000] theorem storeO_map {α : Type} {ti : TI} {z0 : Nat} {f : α → AV} {l : List α} {v : AV} {i z k sub : Nat} : storeO ti (some ⟨z0, l.map f⟩) v i z k sub = storeM ti z0 f l v i z k sub := rfl
@[go_sem] theorem afterR_storeM {α : Type} [Inhabited α] {ti : TI} {z0 : Nat} {f : α → AV} {l : List α} {v : AV} {i z k sub : Nat} {tm : List AV} {S : Store} {mv : List Nat} {K : St → Prop} :
    afterR P (storeM ti z0 f l v i z k sub) none ⟨tm, S, mv⟩ K = ((z0 = z ∧ k < l.length ∧ sub + ti.zs.length ≤ z ∧ v.cells.length = ti.zs.length ∧ v.ok = true) ∧ K ⟨tm, S.set i (some ⟨z0, (l.map f).set k ((f (at' l (k : Int))).putAt sub v.cells)⟩), mv⟩) := by
  unfold storeM
  rw [storeO_some, afterR_set, List.length_map]
  exact propext ⟨fun ⟨h, k⟩ => ⟨h, by rw [getM h.2.1] at k; exact k⟩, fun ⟨h, k⟩ => ⟨h, by rw [getM h.2.1]; exact k⟩⟩
end
end
section
theorem isDs_I (l : List Int) : IsDs (l.map I) (l.map iD) := isDs_map _ _ (fun n => .prim _) l
theorem isDs_p (l : List Pg) : IsDs (l.map pA) (l.map pD) := isDs_map pA pD (fun p => .agg _ _ rfl (by simp [iD, D.scalar])) l
theorem isDs_r (l : List Rc) : IsDs (l.map rA) (l.map rD) := isDs_map rA rD (fun p => .agg _ _ rfl (by simp [iD, D.scalar])) l
theorem arg0_I {S : Store} {i n : Nat} {l : List Int} (h : getO S i = some ⟨1, l.map I⟩) (hn : n = l.length) : Arg0 S true (.own i 1 0 n) (ints l) :=
  .own i 1 0 n _ _ rfl h rfl (by simp [hn]) (by subst hn; have := isDs_I l; simpa [List.take_of_length_le] using this)
theorem arg0_p {S : Store} {i n : Nat} {l : List Pg} (h : getO S i = some ⟨3, l.map pA⟩) (hn : n = l.length) : Arg0 S true (.own i 3 0 n) (pgs l) :=
  .own i 3 0 n _ _ rfl h rfl (by simp [hn]) (by subst hn; have := isDs_p l; simpa [List.take_of_length_le] using this)
theorem arg0_r {S : Store} {i n : Nat} {l : List Rc} (h : getO S i = some ⟨8, l.map rA⟩) (hn : n = l.length) : Arg0 S true (.own i 8 0 n) (recs l) :=
  .own i 8 0 n _ _ rfl h rfl (by simp [hn]) (by subst hn; have := isDs_r l; simpa [List.take_of_length_le] using this)
theorem argT0 {S : Store} {x y : AV} (h : Arg0 S true x y) : ArgT S true x y := .of _ _ (.of1 _ _ (.of0 _ _ h))
theorem argT_pg {S : Store} {a b : Int} {x : AV} {v : List Int} (h : Arg0 S true x (ints v)) : ArgT S true (.agg [I a, I b, x]) (.agg [I a, I b, ints v]) :=
  .of _ _ (.agg _ _ (.cons _ _ _ _ (.same _ rfl) (.cons _ _ _ _ (.same _ rfl) (.cons _ _ _ _ h .nil))))
theorem a2_I (K : List Nat) (l : List Int) : All2 (Rn1 K) (l.map I) (l.map I) := by
  induction l with
  | nil => exact .nil
  | cons x l ih => exact .cons _ _ _ _ (.of _ _ (.same _ rfl)) ih
theorem a2_p (K : List Nat) (l : List Pg) : All2 (Rn1 K) (l.map pA) (l.map pA) := by
  induction l with
  | nil => exact .nil
  | cons x l ih => exact .cons _ _ _ _ (.agg _ _ (.cons _ _ _ _ (.same _ rfl) (.cons _ _ _ _ (.same _ rfl) (.cons _ _ _ _ (.same _ rfl) .nil)))) ih
/-- One object is handed on. -/
theorem keep1 {i : Nat} {S : Store} {ob : AObj} (h : getO S i = some ob) (ha : All2 (Rn1 [i]) ob.es ob.es) :
    ∀ (j k : Nat), [i][j]? = some k → ∃ (o o' : AObj), getO S k = some o ∧ [some ob][j]? = some (some o') ∧ o'.z = o.z ∧ All2 (Rn1 [i]) o.es o'.es := by
  intro j k hj
  cases j with
  | zero => simp at hj; subst hj; exact ⟨ob, ob, h, rfl, rfl, ha⟩
  | succ j => simp at hj
theorem slt_I {n : Nat} {l : List Int} : ((l.map I).all fun x => x.cells.all (AV.lt1 n)) = true := by simp [AV.cells, AV.lt1, AV.lt0]
theorem slt_p {n : Nat} {l : List Pg} : ((l.map pA).all fun x => x.cells.all (AV.lt1 n)) = true := by simp [AV.cells, AV.lt1, AV.lt0]
theorem slt_r {n : Nat} {l : List Rc} : ((l.map rA).all fun x => x.cells.all (AV.lt1 n)) = true := by simp [AV.cells, AV.lt1, AV.lt0]
theorem take_at {α : Type} [Inhabited α] (l : List α) (i : Nat) (h : i < l.length) : l.take i ++ [at' l (i : Int)] = l.take (i + 1) := by
  rw [List.take_add_one, List.getElem?_eq_getElem h]
  simp [at', List.getD, List.getElem?_eq_getElem h]
theorem at_mem {α : Type} [Inhabited α] (l : List α) (i : Nat) (h : i < l.length) : at' l (i : Int) ∈ l := by
  simp [at', List.getD, List.getElem?_eq_getElem h]
@[go_sem] theorem eta_pg (p : Pg) : Pg.mk p.lsn p.owner p.vals = p := rfl
@[go_sem] theorem eta_rc (r : Rc) : Rc.mk r.kind r.tx r.page r.slot r.old r.new r.prev r.next = r := rfl
theorem at_set_self {α : Type} [Inhabited α] (l : List α) (n : Int) (h0 : 0 ≤ n) (h : n.toNat < l.length) (x : α) : at' (l.set n.toNat x) n = x := by
  simp [at', List.getD, List.getElem?_set, h]
theorem rt_own {i j z o l : Nat} (K : List Nat) (h : K[j]? = some i) : RnT K (.own i z o l) (.own j z o l) := .of _ _ (.of _ _ (.own _ _ _ _ _ h))
section
variable {P : Program}
theorem fn_of {f : FuncId} {fn : Func} {c : Code} {args : List AV} {R : AV → Store → Prop} (hf : P.funcs[f]? = some fn) (hb : fn.body = some c) (hn : (fn.name == "runtime.NumGoroutine") = false)
    (h : codeP P c (endP P fn.results.toList 0 (fun r S' mv => R r S' ∧ mv = [])) ⟨args ++ List.replicate (fn.ntmps - args.length) .any, [], []⟩) : Fn P f args R := afn_of hf hb hn h
/-- A call that hands back objects of its own. -/
theorem enter_fn {f : FuncId} {args : List AV} {r0 : AV} {Sr : Store} {d : Tmp} {tm : List AV} {S : Store} {mv : List Nat} {K : St → Prop} (h : Fn P f args (fun r S' => r = r0 ∧ S' = Sr)) (hp : args.all AV.pu = true)
    (hk : K ⟨tm.set d (r0.sh S.length), S ++ shS S.length Sr, mv⟩) : afterR P (.enter f args) (some d) ⟨tm, S, mv⟩ K := by
  refine enter_any (h.frame false (args_of_pu hp) (fun h => by cases h)) ?_
  rintro r S' mv' ⟨r1, S1, ⟨rfl, rfl⟩, rfl, rfl, rfl⟩
  exact hk
/-- A call that hands back one new object, where the order is drawn. -/
theorem pre_made {S0 : Store} {f : FuncId} {args : List AV} {r0 : AV} {ob : AObj} {d : Tmp} {tm : List AV} {N : List AObj} {K : List AV → List AObj → Prop} (h : Fn P f args (fun r S => r = r0 ∧ S = [some ob])) (hp : args.all AV.pu = true)
    (hr : ∀ n, r0.sh n = r0.at n) (ho : ∀ n, shS n [some ob] = [some ob]) (hs : r0.smp = true) (hl : (ob.es.all fun x => x.cells.all (AV.lt1 S0.length)) = true) (hk : K (tm.set d (r0.at (S0.length + N.length))) (N ++ [ob])) :
    afterPre P S0 (.enter f args) d tm N K := by
  refine .inr ⟨r0, ob, fun S hS => ?_, hs, hl, hk⟩
  refine (h.frame (S := S) false (args_of_pu hp) (fun h => by cases h)).mono ?_
  rintro r S' mv ⟨r1, S1, ⟨rfl, rfl⟩, rfl, rfl, rfl⟩
  exact ⟨hr _, by rw [ho], rfl⟩
end
attribute [go_sem] AV.at AV.at0
@[go_sem] theorem sh_prim {n : Nat} {v : Value} : AV.sh n (.prim v) = .prim v := rfl
@[go_sem] theorem sh_sl {n z : Nat} {xs : List D} : AV.sh n (.sl z xs) = .sl z xs := rfl
@[go_sem] theorem sh_own {n i z o l : Nat} : AV.sh n (.own i z o l) = .own (i + n) z o l := rfl
@[go_sem] theorem sh_agg {n : Nat} {xs : List AV} : AV.sh n (.agg xs) = .agg (xs.map (AV.sh0 n)) := rfl
@[go_sem] theorem sh_tup {n : Nat} {xs : List AV} : AV.sh n (.tup xs) = .tup (xs.map (AV.sh1 n)) := rfl
@[go_sem] theorem sh0_prim {n : Nat} {v : Value} : AV.sh0 n (.prim v) = .prim v := rfl
@[go_sem] theorem sh0_sl {n z : Nat} {xs : List D} : AV.sh0 n (.sl z xs) = .sl z xs := rfl
@[go_sem] theorem sh0_own {n i z o l : Nat} : AV.sh0 n (.own i z o l) = .own (i + n) z o l := rfl
@[go_sem] theorem sh1_prim {n : Nat} {v : Value} : AV.sh1 n (.prim v) = .prim v := rfl
@[go_sem] theorem sh1_own {n i z o l : Nat} : AV.sh1 n (.own i z o l) = .own (i + n) z o l := rfl
@[go_sem] theorem sh1_agg {n : Nat} {xs : List AV} : AV.sh1 n (.agg xs) = .agg (xs.map (AV.sh0 n)) := rfl
@[go_sem] theorem sh1_I {n : Nat} {l : List Int} : (l.map I).map (AV.sh1 n) = l.map I := by rw [List.map_map]; rfl
@[go_sem] theorem sh1_p {n : Nat} {l : List Pg} : (l.map pA).map (AV.sh1 n) = l.map pA := by rw [List.map_map]; rfl
@[go_sem] theorem sh1_r {n : Nat} {l : List Rc} : (l.map rA).map (AV.sh1 n) = l.map rA := by rw [List.map_map]; rfl
@[go_sem] theorem shS_nil {n : Nat} : shS n [] = [] := rfl
@[go_sem] theorem shS_cons {n z : Nat} {es : List AV} {S : Store} : shS n (some ⟨z, es⟩ :: S) = some ⟨z, es.map (AV.sh1 n)⟩ :: shS n S := rfl
end
section
/-- An engine whose pages are the objects i and j. -/
abbrev eX (i j : Nat) (e : Eng) : AV := .agg [.own i 3 0 5, .own j 3 0 5, recs e.log, I e.safe, Bo e.down]
abbrev oP (ps : List Pg) : Option AObj := some ⟨3, ps.map pA⟩
abbrev sO (e : Eng) : Store := [oP e.disk, oP e.mem]
theorem arg_eX {S : Store} {i j : Nat} {e : Eng} (h0 : getO S i = some ⟨3, e.disk.map pA⟩) (h1 : getO S j = some ⟨3, e.mem.map pA⟩) (hd : 5 = e.disk.length) (hm : 5 = e.mem.length) : Arg S true (eX i j e) (eA e) :=
  .agg _ _ (.cons _ _ _ _ (arg0_p h0 hd) (.cons _ _ _ _ (arg0_p h1 hm) (.cons _ _ _ _ (.same _ rfl) (.cons _ _ _ _ (.same _ rfl) (.cons _ _ _ _ (.same _ rfl) .nil)))))
theorem arg_same {S : Store} {b : Bool} {x : AV} (h : x.pu = true) : Arg S b x x := arg_of_pu h
/-- The objects that a contract is over, in a caller's store. -/
inductive Keeps (K : List Nat) (T : Store) : List Nat → Store → Prop
  | nil : Keeps K T [] []
  | cons (k : Nat) (ks : List Nat) (o o' : AObj) (S : Store) (h : T[k]? = some (some o)) (hz : o'.z = o.z) (hes : All2 (Rn1 K) o.es o'.es) (t : Keeps K T ks S) : Keeps K T (k :: ks) (some o' :: S)
theorem Keeps.spec {K : List Nat} {T : Store} {ks : List Nat} {S : Store} (h : Keeps K T ks S) : S.length = ks.length ∧ ∀ (j i : Nat), ks[j]? = some i → ∃ (o o' : AObj), T[i]? = some (some o) ∧ S[j]? = some (some o') ∧ o'.z = o.z ∧ All2 (Rn1 K) o.es o'.es := by
  induction h with
  | nil => exact ⟨rfl, fun j i hj => by simp at hj⟩
  | cons k ks o o' S h hz hes t ih =>
    refine ⟨by simp [ih.1], fun j i hj => ?_⟩
    cases j with
    | zero => simp at hj; subst hj; exact ⟨o, o', h, rfl, hz, hes⟩
    | succ j =>
      obtain ⟨a, b, h1, h2, h3⟩ := ih.2 j i (by simpa using hj)
      exact ⟨a, b, h1, by simpa using h2, h3⟩
section
variable {P : Program}
/-- A contract over objects; what comes back hangs on an unknown. -/
def AFnX (P : Program) (f : FuncId) (args : List AV) (S : Store) {X : Type} (J : X → Prop) (R : X → AV) (U : X → Store) (M : List Nat) : Prop :=
  AFn P f args S (fun r S' mv => ∃ x, J x ∧ r = R x ∧ S' = U x ∧ mv = M)
def AFn1 (P : Program) (f : FuncId) (args : List AV) (S : Store) (r : AV) (S1 : Store) (M : List Nat) : Prop := AFn P f args S (fun r' S' mv => r' = r ∧ S' = S1 ∧ mv = M)
theorem enter_at (K : List Nat) {X : Type} {f : FuncId} {args args' : List AV} {S : Store} {J : X → Prop} {R : X → AV} {U : X → Store} {M M2 : List Nat} {d : Tmp} {tm : List AV} {T : Store} {mv : List Nat} {Kont : St → Prop}
    (h : AFnX P f args' S J R U M) (hn : K.Nodup) (hk : Keeps K T K S) (ha : All2 (RnT K) args args') (hM : M.filterMap (fun j => K[j]?) = M2)
    (hc : ∀ x, J x → Kont ⟨(scT M2 tm).set d ((R x).rn (rho K T.length)), putS (rho K T.length) K (U x) (scS M2 T), M2 ++ mv⟩) : afterR P (.enter f args) (some d) ⟨tm, T, mv⟩ Kont := by
  obtain ⟨h1, h2⟩ := hk.spec
  refine enter_any (AFn.at K h hn h1 h2 ha) ?_
  rintro r S' mv' ⟨r0, S0, m0, ⟨x, hx, rfl, rfl, rfl⟩, rfl, rfl, rfl⟩
  rw [hM]
  exact hc x hx
theorem enter_at1 (K : List Nat) {f : FuncId} {args args' : List AV} {S S1 : Store} {r : AV} {M M2 : List Nat} {d : Tmp} {tm : List AV} {T : Store} {mv : List Nat} {Kont : St → Prop}
    (h : AFn1 P f args' S r S1 M) (hn : K.Nodup) (hk : Keeps K T K S) (ha : All2 (RnT K) args args') (hM : M.filterMap (fun j => K[j]?) = M2)
    (hc : Kont ⟨(scT M2 tm).set d (r.rn (rho K T.length)), putS (rho K T.length) K S1 (scS M2 T), M2 ++ mv⟩) : afterR P (.enter f args) (some d) ⟨tm, T, mv⟩ Kont :=
  enter_at K (X := Unit) (J := fun _ => True) (R := fun _ => r) (U := fun _ => S1) (AFn.mono h fun _ _ _ ⟨a, b, c⟩ => ⟨(), trivial, a, b, c⟩) hn hk ha hM (fun _ _ => hc)
theorem afn1_of {f : FuncId} {fn : Func} {c : Code} {args : List AV} {S : Store} {r : AV} {S1 : Store} {M : List Nat} (hf : P.funcs[f]? = some fn) (hb : fn.body = some c) (hn : (fn.name == "runtime.NumGoroutine") = false)
    (h : codeP P c (endP P fn.results.toList S.length (fun r' S' mv => r' = r ∧ S' = S1 ∧ mv = M)) ⟨args ++ List.replicate (fn.ntmps - args.length) .any, S, []⟩) : AFn1 P f args S r S1 M := afn_of hf hb hn h
end
theorem rnT_eX {K : List Nat} {a b i j : Nat} {e : Eng} (h0 : K[a]? = some i) (h1 : K[b]? = some j) : RnT K (eX i j e) (eX a b e) :=
  .of _ _ (.agg _ _ (.cons _ _ _ _ (.own _ _ _ _ _ h0) (.cons _ _ _ _ (.own _ _ _ _ _ h1) (.cons _ _ _ _ (.same _ rfl) (.cons _ _ _ _ (.same _ rfl) (.cons _ _ _ _ (.same _ rfl) .nil))))))
theorem rnT_ref {K : List Nat} {i j z k s : Nat} (h : K[j]? = some i) : RnT K (.ref i z k s) (.ref j z k s) := .of _ _ (.of _ _ (.ref _ _ _ _ _ h))
theorem rnT_prim {K : List Nat} {v : Value} : RnT K (.prim v) (.prim v) := .of _ _ (.of _ _ (.same _ rfl))
theorem rnT_sl {K : List Nat} {z : Nat} {xs : List D} : RnT K (.sl z xs) (.sl z xs) := .of _ _ (.of _ _ (.same _ rfl))
theorem a2_same {K : List Nat} {xs : List AV} (h : xs.all AV.pur0 = true) : All2 (Rn0 K) xs xs := by
  induction xs with
  | nil => exact .nil
  | cons x xs ih =>
    simp only [List.all_cons, Bool.and_eq_true] at h
    exact .cons _ _ _ _ (.same _ h.1) (ih h.2)
theorem rnT_agg {K : List Nat} {xs : List AV} (h : xs.all AV.pur0 = true) : RnT K (.agg xs) (.agg xs) := .of _ _ (.agg _ _ (a2_same h))
theorem a2_1 {K : List Nat} {xs : List AV} (h : xs.all AV.pur0 = true) : All2 (Rn1 K) [.agg xs] [.agg xs] := .cons _ _ _ _ (.agg _ _ (a2_same h)) .nil
@[go_sem] theorem scT_nil {tm : List AV} : scT [] tm = tm := rfl
@[go_sem] theorem scS_nil {S : Store} : scS [] S = S := rfl
@[go_sem] theorem putS_nil {ρ : Nat → Nat} {T : Store} : putS ρ [] [] T = T := by simp [putS]
@[go_sem] theorem putS_cons {ρ : Nat → Nat} {k : Nat} {K : List Nat} {o : Option AObj} {S T : Store} : putS ρ (k :: K) (o :: S) T = putS ρ K S (T.set k (rnO ρ o)) := rfl
@[go_sem] theorem rho1 {a n : Nat} : rho [a] n 0 = a := rfl
@[go_sem] theorem rho20 {a b n : Nat} : rho [a, b] n 0 = a := rfl
@[go_sem] theorem rho21 {a b n : Nat} : rho [a, b] n 1 = b := rfl
@[go_sem] theorem rho30 {a b c n : Nat} : rho [a, b, c] n 0 = a := rfl
@[go_sem] theorem rho31 {a b c n : Nat} : rho [a, b, c] n 1 = b := rfl
@[go_sem] theorem rho32 {a b c n : Nat} : rho [a, b, c] n 2 = c := rfl
@[go_sem] theorem rn_tup {ρ : Nat → Nat} {xs : List AV} : AV.rn ρ (.tup xs) = .tup (xs.map (AV.rn1 ρ)) := rfl
@[go_sem] theorem rn_agg {ρ : Nat → Nat} {xs : List AV} : AV.rn ρ (.agg xs) = .agg (xs.map (AV.rn0 ρ)) := rfl
@[go_sem] theorem rn_own {ρ : Nat → Nat} {i z o l : Nat} : AV.rn ρ (.own i z o l) = .own (ρ i) z o l := rfl
@[go_sem] theorem rn_ref {ρ : Nat → Nat} {i z o l : Nat} : AV.rn ρ (.ref i z o l) = .ref (ρ i) z o l := rfl
@[go_sem] theorem rn_prim {ρ : Nat → Nat} {v : Value} : AV.rn ρ (.prim v) = .prim v := rfl
@[go_sem] theorem rn_sl {ρ : Nat → Nat} {z : Nat} {xs : List D} : AV.rn ρ (.sl z xs) = .sl z xs := rfl
@[go_sem] theorem rn1_agg {ρ : Nat → Nat} {xs : List AV} : AV.rn1 ρ (.agg xs) = .agg (xs.map (AV.rn0 ρ)) := rfl
@[go_sem] theorem rn1_own {ρ : Nat → Nat} {i z o l : Nat} : AV.rn1 ρ (.own i z o l) = .own (ρ i) z o l := rfl
@[go_sem] theorem rn1_ref {ρ : Nat → Nat} {i z o l : Nat} : AV.rn1 ρ (.ref i z o l) = .ref (ρ i) z o l := rfl
@[go_sem] theorem rn1_prim {ρ : Nat → Nat} {v : Value} : AV.rn1 ρ (.prim v) = .prim v := rfl
@[go_sem] theorem rn1_sl {ρ : Nat → Nat} {z : Nat} {xs : List D} : AV.rn1 ρ (.sl z xs) = .sl z xs := rfl
@[go_sem] theorem rn0_own {ρ : Nat → Nat} {i z o l : Nat} : AV.rn0 ρ (.own i z o l) = .own (ρ i) z o l := rfl
@[go_sem] theorem rn0_ref {ρ : Nat → Nat} {i z o l : Nat} : AV.rn0 ρ (.ref i z o l) = .ref (ρ i) z o l := rfl
@[go_sem] theorem rn0_prim {ρ : Nat → Nat} {v : Value} : AV.rn0 ρ (.prim v) = .prim v := rfl
@[go_sem] theorem rn0_sl {ρ : Nat → Nat} {z : Nat} {xs : List D} : AV.rn0 ρ (.sl z xs) = .sl z xs := rfl
@[go_sem] theorem rnO_p {ρ : Nat → Nat} {ps : List Pg} : rnO ρ (some ⟨3, ps.map pA⟩) = some ⟨3, ps.map pA⟩ := by
  unfold rnO
  simp only [Option.map_some, List.map_map]
  congr 2
@[go_sem] theorem rnO_agg {ρ : Nat → Nat} {z : Nat} {xs : List AV} : rnO ρ (some ⟨z, [.agg xs]⟩) = some ⟨z, [.agg (xs.map (AV.rn0 ρ))]⟩ := rfl
/-- The end of a function over an engine: its pages are what the objects a and b are now. -/
theorem keep2 {a b : Nat} {S : Store} {o1 o2 : AObj} (h1 : getO S a = some o1) (h2 : getO S b = some o2) (e1 : All2 (Rn1 [a, b]) o1.es o1.es) (e2 : All2 (Rn1 [a, b]) o2.es o2.es) :
    ∀ (j k : Nat), [a, b][j]? = some k → ∃ (o o' : AObj), getO S k = some o ∧ [some o1, some o2][j]? = some (some o') ∧ o'.z = o.z ∧ All2 (Rn1 [a, b]) o.es o'.es := by
  intro j k hj
  rcases j with _ | _ | j
  · simp at hj; subst hj; exact ⟨o1, o1, h1, rfl, rfl, e1⟩
  · simp at hj; subst hj; exact ⟨o2, o2, h2, rfl, rfl, e2⟩
  · simp at hj
@[go_sem] theorem ite_ft {α : Type} {a b : α} : (if false = true then a else b) = b := rfl
@[go_sem] theorem ite_max {a b : Int} : (if a < b then b else a) = max a b := by omega
theorem hm2 {mv : List Nat} (h : mv = []) : ∀ i, i < 2 → ([] : List Nat).contains i = false → [0, 1][i]? = some i ∧ mv.contains i = false := by
  intro i hi _
  subst h
  have hi2 : i = 0 ∨ i = 1 := by omega
  rcases hi2 with rfl | rfl <;> exact ⟨rfl, rfl⟩
@[go_sem] theorem app_r {l : List Rc} {a b c d e f g h : Int} : l.map rA ++ [.agg [I a, I b, I c, I d, I e, I f, I g, I h]] = (l ++ [(⟨a, b, c, d, e, f, g, h⟩ : Rc)]).map rA := by simp
theorem ne5 {ps : List Pg} (h : ps.length = 5) : ps.map pA ≠ [] := by
  intro e
  have := congrArg List.length e
  simp [h] at this
theorem hd2 {S : Store} {mv : List Nat} {o1 o2 : AObj} (h1 : getO S 0 = some o1) (h2 : getO S 1 = some o2) (n1 : o1.es ≠ []) (n2 : o2.es ≠ []) (m0 : mv.contains 0 = false) (m1 : mv.contains 1 = false) :
    ∀ i, i < 2 → mv.contains i = false ∧ (∃ o, getO S i = some o ∧ o.es ≠ []) ∧ (([] : List Nat).contains i = false → [0, 1][i]? = some i) := by
  intro i hi
  have hi2 : i = 0 ∨ i = 1 := by omega
  rcases hi2 with rfl | rfl
  · exact ⟨m0, ⟨_, h1, n1⟩, fun _ => rfl⟩
  · exact ⟨m1, ⟨_, h2, n2⟩, fun _ => rfl⟩
theorem dropR {K : List Nat} {S : Store} {n0 i n : Nat} {l : List Rc} (hi : n0 ≤ i) (hK : i ∉ K) (ho : getO S i = some ⟨8, l.map rA⟩) (hn : n = l.length) : Rd0 K S n0 (.own i 8 0 n) (recs l) :=
  .drop i 8 0 n _ _ hi hK ho rfl (by simp [hn]) (by subst hn; have := isDs_r l; simpa [List.take_of_length_le] using this)
/-- An engine whose log is an object that is not handed on. -/
theorem rd_eX {K : List Nat} {S : Store} {n0 a b i j k n : Nat} {e : Eng} (h0 : K[a]? = some i) (h1 : K[b]? = some j) (hk : n0 ≤ k) (hK : k ∉ K) (ho : getO S k = some ⟨8, e.log.map rA⟩) (hn : n = e.log.length) :
    Rd1 K S n0 (.agg [.own i 3 0 5, .own j 3 0 5, .own k 8 0 n, I e.safe, Bo e.down]) (eX a b e) :=
  .agg _ _ (.cons _ _ _ _ (.rn _ _ (.own _ _ _ _ _ h0)) (.cons _ _ _ _ (.rn _ _ (.own _ _ _ _ _ h1)) (.cons _ _ _ _ (dropR hk hK ho hn) (.cons _ _ _ _ (.rn _ _ (.same _ rfl)) (.cons _ _ _ _ (.rn _ _ (.same _ rfl)) .nil)))))
theorem rd_B {K : List Nat} {S : Store} {n0 : Nat} {b : Bool} : Rd1 K S n0 (Bo b) (Bo b) := .of _ _ (.rn _ _ (.same _ rfl))
theorem rnT_eXb {K : List Nat} {a b i j : Nat} {e : Eng} {c : Bool} (h0 : K[a]? = some i) (h1 : K[b]? = some j) : RnT K (.tup [eX i j e, Bo c]) (.tup [eX a b e, Bo c]) :=
  .tup _ _ (.cons _ _ _ _ (.agg _ _ (.cons _ _ _ _ (.own _ _ _ _ _ h0) (.cons _ _ _ _ (.own _ _ _ _ _ h1) (.cons _ _ _ _ (.same _ rfl) (.cons _ _ _ _ (.same _ rfl) (.cons _ _ _ _ (.same _ rfl) .nil)))))) (.cons _ _ _ _ (.of _ _ (.same _ rfl)) .nil))
end
section
def doP (p : Pg) (r : Rc) (lsn : Int) : Pg :=
  if 0 ≤ r.slot then ⟨lsn, p.owner, p.vals.set r.slot.toNat r.new⟩
  else ⟨lsn, r.new, if r.new = 0 then [0, 0, 0] else p.vals⟩
/-- A page with room for its slots. -/
def Pg.sz (p : Pg) : Prop := p.vals.length = 3
theorem doP_sz {p : Pg} {r : Rc} {n : Int} (h : p.sz) : (doP p r n).sz := by
  unfold doP Pg.sz at *
  split
  · simpa using h
  · split
    · rfl
    · exact h
theorem Rc.ok_page {r : Rc} (h : r.ok = true) : ∃ m : Nat, m ≤ 4 ∧ r.page = (m : Int) := by
  unfold Rc.ok Rc.of isIn at h
  simp only [Bool.and_eq_true] at h
  have h2 := h.2
  have : 0 ≤ r.page ∧ r.page ≤ 4 := by
    (repeat' split at h2) <;> simp_all
  exact ⟨r.page.toNat, by omega, by omega⟩
theorem Rc.ok_slot {r : Rc} (h : r.ok = true) : -1 ≤ r.slot ∧ r.slot ≤ 2 := by
  unfold Rc.ok Rc.of isIn at h
  simp only [Bool.and_eq_true] at h
  have h2 := h.2
  (repeat' split at h2) <;> simp_all <;> omega
def redo1 (q : List Pg) (r : Rc) (i : Nat) : List Pg :=
  if chg r.kind = true ∧ (at' q r.page).lsn < ((i + 1 : Nat) : Int) then q.set r.page.toNat (doP (at' q r.page) r ((i + 1 : Nat) : Int)) else q
/-- Pages behind the first n records, but for those that they have already. -/
def redoTo (ps : List Pg) (l : List Rc) : Nat → List Pg
  | 0 => ps
  | n + 1 => redo1 (redoTo ps l n) (at' l (n : Int)) n
structure Sz (ps : List Pg) : Prop where
  len : ps.length = 5
  sz : ∀ k : Nat, k < 5 → (at' ps (k : Int)).vals.length = 3
theorem at_set {α : Type} [Inhabited α] (l : List α) (i j : Nat) (x : α) (h : i < l.length) : at' (l.set i x) (j : Int) = if j = i then x else at' l (j : Int) := by
  simp only [at', List.getD, Int.toNat_natCast, List.getElem?_set]
  by_cases e : j = i
  · subst e; simp [h]
  · simp [e, Ne.symm e]
theorem Sz.set {ps : List Pg} (h : Sz ps) (k : Nat) (p : Pg) (hp : p.vals.length = 3) : Sz (ps.set k p) := by
  refine ⟨by simp [h.len], fun j hj => ?_⟩
  by_cases hk : k < ps.length
  · rw [at_set _ _ _ _ hk]
    split
    · exact hp
    · exact h.sz j hj
  · rw [List.set_eq_of_length_le (by omega)]
    exact h.sz j hj
theorem redo1_sz {q : List Pg} (h : Sz q) {r : Rc} (hr : r.ok = true) (i : Nat) : Sz (redo1 q r i) := by
  obtain ⟨m, hm, hp⟩ := Rc.ok_page hr
  unfold redo1
  split
  · rw [hp]
    exact h.set _ _ (doP_sz (h.sz m (by omega)))
  · exact h
theorem redoTo_sz {ps : List Pg} (h : Sz ps) {l : List Rc} (hw : Wf l) : ∀ n, n ≤ l.length → Sz (redoTo ps l n)
  | 0, _ => h
  | n + 1, hn => redo1_sz (redoTo_sz h hw n (by omega)) (hw.rok n (by omega)) n
theorem redoTo_take (ps : List Pg) (l : List Rc) (m : Nat) : ∀ n, n ≤ m → redoTo ps (l.take m) n = redoTo ps l n
  | 0, _ => rfl
  | n + 1, h => by
    unfold redoTo
    rw [redoTo_take ps l m n (by omega), at_take l m (by omega)]
theorem mem_at {α : Type} [Inhabited α] {l : List α} {x : α} (h : x ∈ l) : ∃ k : Nat, k < l.length ∧ at' l (k : Int) = x := by
  obtain ⟨k, hk, rfl⟩ := List.mem_iff_getElem.1 h
  exact ⟨k, hk, by simp [at', List.getD, List.getElem?_eq_getElem hk]⟩
/-- A page with the n-th record undone. -/
def undoP (l : List Rc) (q : List Pg) (n : Nat) : Pg := doP (at' q (at' l (n : Int)).page) ((at' l (n : Int)).back 0) (at' q (at' l (n : Int)).page).lsn
def undoAll (l : List Rc) : List Pg → List Nat → Option (List Pg)
  | q, [] => some q
  | q, n :: us => if (undoP l q (n - 1)).ok then undoAll l (q.set (at' l ((n - 1 : Nat) : Int)).page.toNat (undoP l q (n - 1))) us else none
def undoFrom (l : List Rc) (q : List Pg) (t : Nat) : Option (List Pg) :=
  if h : t < 3 then (undoAll l q (undosN l (lastN l ((t + 1 : Nat) : Int)))).bind fun q' => undoFrom l q' (t + 1) else some q
termination_by 3 - t
theorem undoFrom_lt {l : List Rc} {q : List Pg} {t : Nat} (h : t < 3) : undoFrom l q t = (undoAll l q (undosN l (lastN l ((t + 1 : Nat) : Int)))).bind fun q' => undoFrom l q' (t + 1) := by
  rw [undoFrom]; simp [h]
theorem undoFrom_ge {l : List Rc} {q : List Pg} {t : Nat} (h : ¬ t < 3) : undoFrom l q t = some q := by rw [undoFrom]; simp [h]
theorem undoAll_ok {l : List Rc} {q : List Pg} {n : Nat} {us : List Nat} (h : (undoP l q n).ok = true) : undoAll l q ((n + 1) :: us) = undoAll l (q.set (at' l (n : Int)).page.toNat (undoP l q n)) us := by
  rw [undoAll]; simp [h]
theorem undoAll_no {l : List Rc} {q : List Pg} {n : Nat} {us : List Nat} (h : (undoP l q n).ok = false) : undoAll l q ((n + 1) :: us) = none := by
  rw [undoAll]; simp [h]
def undoneB (ps : List Pg) (l : List Rc) : Bool := (undoFrom l ps 0).isSome
end
end Go.Proofs.YtfcnajhanjhonaaGreat.Am
end
section
set_option linter.unusedVariables false
set_option linter.unusedSimpArgs false
set_option maxRecDepth 100000
set_option maxHeartbeats 8000000
namespace Go.Proofs.YtfcnajhanjhonaaGreat.Am
open Go Go.RowKit Go.Proofs
attribute [local go_sem_proc] Nat.reduceAdd Nat.reduceSub Nat.reduceMul Nat.reduceLT Nat.reduceLeDiff Nat.reduceEqDiff Int.reduceBEq Int.reduceBNe Int.reduceNeg Int.reduceSub Int.reduceLE Int.reduceLT
attribute [local go_sem_proc ↓] reduceIte
attribute [local congr] opsP_congr codeP_congr AWP_congr afterR_congr preP_congr afterPre_congr gPre_congr gOps_congr condP_congr stepE_congr
attribute [local go_sem] ty_int ty_bool ty_str ty_u8 ty_ints ty_bytes ty_page ty_pages ty_lpage ty_lpages ty_rec ty_recs ty_lrec ty_lrecs ty_eng ty_leng
attribute [local go_sem] true_and and_true beq_true' beq_false' toNat_cast Int.natCast_nonneg Bool.not_not Bool.not_true Bool.not_false decide_true decide_false Bool.or_false Bool.false_or Bool.or_true Bool.true_or Bool.and_false Bool.false_and Nat.zero_add Int.toNat_of_nonneg wrap_succ wrap_m1 wrap_nat succ_m1 cast0 succ_pos' succ_ne' succ_bne' ge_iff_le gt_iff_lt if_true if_false
section
theorem l1Copy_fn (p : Pg) (hb : p.vals.length < 1000000) : Fn1 Tryz.prog 142 [pA p] (pA p) := by
  refine fn1_of Tryz.func142 rfl rfl ?_
  simp -implicitDefEqProofs only [go_sem, Tryz.f142]
  (repeat' (first | ((with_reducible first | refine gon ?_ ?_ | refine gos ?_ ?_ | refine cdn ?_ ?_ | refine cds ?_ ?_ | refine gpn ?_ ?_ | refine gps ?_ ?_) <;> intro h <;> (try simp only [dt, df, gi, gt] at h) <;> try simp -implicitDefEqProofs only [go_sem, *]) | ((with_reducible refine And.intro ?_ ?_); (· first | omega | (simp only [List.length_take]; omega)); try simp -implicitDefEqProofs only [go_sem, *]) | fail))
  exact fin_1 (argT_pg (arg0_I rfl rfl))
theorem l1Copy_own (p : Pg) (hb : p.vals.length < 1000000) : Fn Tryz.prog 142 [pA p] (fun r S => r = .agg [I p.lsn, I p.owner, .own 0 1 0 p.vals.length] ∧ S = [some ⟨1, p.vals.map I⟩]) := by
  refine fn_of Tryz.func142 rfl rfl ?_
  simp -implicitDefEqProofs only [go_sem, Tryz.f142]
  (repeat' (first | ((with_reducible first | refine gon ?_ ?_ | refine gos ?_ ?_ | refine cdn ?_ ?_ | refine cds ?_ ?_ | refine gpn ?_ ?_ | refine gps ?_ ?_) <;> intro h <;> (try simp only [dt, df, gi, gt] at h) <;> try simp -implicitDefEqProofs only [go_sem, *]) | ((with_reducible refine And.intro ?_ ?_); (· first | omega | (simp only [List.length_take]; omega)); try simp -implicitDefEqProofs only [go_sem, *]) | fail))
  exact fin_keep [2] (by simp) rfl (keep1 rfl (a2_I _ _)) (.of _ _ (.agg _ _ (.cons _ _ _ _ (.same _ rfl) (.cons _ _ _ _ (.same _ rfl) (.cons _ _ _ _ (.own _ _ _ _ _ rfl) .nil))))) ⟨rfl, rfl⟩
theorem l2Back_fn (r : Rc) (n : Int) : Fn1 Tryz.prog 115 [rA r, I n] (rA (r.back n)) := by
  refine fn1_of Tryz.func115 rfl rfl ?_
  simp -implicitDefEqProofs only [go_sem, Tryz.f115]
  (repeat' (first | ((with_reducible first | refine gon ?_ ?_ | refine gos ?_ ?_ | refine cdn ?_ ?_ | refine cds ?_ ?_ | refine gpn ?_ ?_ | refine gps ?_ ?_) <;> intro h <;> (try simp only [dt, df, gi, gt] at h) <;> try simp -implicitDefEqProofs only [go_sem, *]) | ((with_reducible refine And.intro ?_ ?_); (· first | omega | (simp only [List.length_take]; omega)); try simp -implicitDefEqProofs only [go_sem, *]) | fail))
  exact fin_pu rfl rfl
theorem l11CopyPages_own (ps : List Pg) (hb : ps.length < 1000000) (hv : ∀ p ∈ ps, p.vals.length < 1000000) : Fn Tryz.prog 96 [pgs ps] (fun r S => r = .own 0 3 0 ps.length ∧ S = [some ⟨3, ps.map pA⟩]) := by
  refine fn_of Tryz.func96 rfl rfl ?_
  simp -implicitDefEqProofs only [go_sem, Tryz.f96]
  refine cp_loop (fun i : Nat => ⟨(pgs ps :: .any :: nilS :: .own 0 3 0 i :: I (i : Int) :: .any :: .any :: .any :: .any :: .any :: .any :: .any :: .any :: .any :: .any :: .any :: .any :: .any :: .any :: .any :: .any :: []), [some ⟨3, (ps.take i).map pA⟩], [0]⟩) (fun i => i ≤ ps.length) (fun i => ps.length - i) 0 ?_ ?_ ?_
  · simp
  · refine WkN.trans (wk_tm ?_) (wk_mv (by simp))
    repeat (first | exact WL.nil | (with_reducible refine WL.any _ _ _ ?_) | (with_reducible refine WL.same _ _ _ ?_) | (refine WL.eq _ _ _ _ rfl ?_))
  · rintro i hi
    have hb' : i < 4611686018427387904 := by omega
    simp -implicitDefEqProofs only [go_sem, true_and]
    (repeat' (first | ((with_reducible first | refine gon ?_ ?_ | refine gos ?_ ?_ | refine cdn ?_ ?_ | refine cds ?_ ?_ | refine gpn ?_ ?_ | refine gps ?_ ?_) <;> intro h <;> (try simp only [dt, df, gi, gt] at h) <;> try simp -implicitDefEqProofs only [go_sem, *]) | ((with_reducible refine And.intro ?_ ?_); (· first | omega | (simp only [List.length_take]; omega)); try simp -implicitDefEqProofs only [go_sem, *]) | ((with_reducible refine enter_pu (l1Copy_fn _ (hv _ (at_mem ps i (by omega)))) ?_ ?_ ?_); (· rfl); (· rfl); try simp -implicitDefEqProofs only [go_sem, *])))
    · have e : List.take i ps ++ [(⟨(at' ps (i : Int)).lsn, (at' ps (i : Int)).owner, (at' ps (i : Int)).vals⟩ : Pg)] = List.take (i + 1) ps := take_at ps i (by omega)
      rw [e]
      refine ⟨i + 1, by omega, by omega, ?_⟩
      refine WkN.trans (WkN.trans (wk_tm ?_) (wk_trunc (S := [some ⟨3, (ps.take (i + 1)).map pA⟩]) (Nat.le_refl _) rfl (by first | rfl | (simp only [sltB, List.all_cons, List.all_nil, slt_p, slt_I, slt_r, Bool.and_true]; done) | (simp only [sltB, List.all_cons, List.all_nil, slt_p, slt_I, slt_r, Bool.and_true]; rfl)))) (wk_mv (by simp)); repeat (first | exact WL.nil | (with_reducible refine WL.any _ _ _ ?_) | (with_reducible refine WL.same _ _ _ ?_) | (refine WL.eq _ _ _ _ rfl ?_))
    · have e : i = ps.length := by omega
      subst e
      rw [List.take_length]
      exact fin_keep [0] (by simp) rfl (keep1 rfl (a2_p _ _)) (rt_own _ rfl) ⟨rfl, rfl⟩
theorem l2Do_fn (p : Pg) (r : Rc) (n : Int) (hp : p.vals.length = 3) (hr : r.slot ≤ 2) : Fn1 Tryz.prog 113 [pA p, rA r, I n] (pA (doP p r n)) := by
  refine fn1_of Tryz.func113 rfl rfl ?_
  simp -implicitDefEqProofs only [go_sem, Tryz.f113]
  (repeat' (first | ((with_reducible first | refine gon ?_ ?_ | refine gos ?_ ?_ | refine cdn ?_ ?_ | refine cds ?_ ?_ | refine gpn ?_ ?_ | refine gps ?_ ?_) <;> intro h <;> (try simp only [dt, df, gi, gt] at h) <;> try simp -implicitDefEqProofs only [go_sem, *]) | ((with_reducible refine And.intro ?_ ?_); (· first | omega | (simp only [List.length_take]; omega)); try simp -implicitDefEqProofs only [go_sem, *]) | ((with_reducible refine enter_fn (l1Copy_own _ ?_) ?_ ?_); (· (first | assumption | omega | (simp; omega))); (· rfl); try simp -implicitDefEqProofs only [go_sem, *])))
  · have e : doP p r n = ⟨n, p.owner, p.vals.set r.slot.toNat r.new⟩ := by simp [doP, h]
    rw [e]
    exact fin_1 (argT_pg (arg0_I rfl (by simp [hp])))
  · have e : doP p r n = ⟨n, r.new, [0, 0, 0]⟩ := by simp_all [doP]; omega
    rw [e]
    exact fin_1 (argT_pg (arg0_I (l := [0, 0, 0]) rfl rfl))
  · have e : doP p r n = ⟨n, r.new, p.vals⟩ := by simp_all [doP]; omega
    rw [e]
    exact fin_1 (argT_pg (arg0_I rfl (by simp [hp])))
theorem l11Redo_own (ps : List Pg) (l : List Rc) (hp : Sz ps) (hw : Wf l) : Fn Tryz.prog 64 [pgs ps, recs l] (fun r S => r = .own 0 3 0 5 ∧ S = [some ⟨3, (redoTo ps l l.length).map pA⟩]) := by
  have hlen := hw.len
  have hp5 := hp.len
  have hcp := l11CopyPages_own ps (by omega) (fun p hm => by obtain ⟨k, hk, rfl⟩ := mem_at hm; rw [hp.sz k (by omega)]; omega)
  rw [hp5] at hcp
  refine fn_of Tryz.func64 rfl rfl ?_
  simp -implicitDefEqProofs only [go_sem, Tryz.f64]
  (repeat' (first | ((with_reducible first | refine gon ?_ ?_ | refine gos ?_ ?_ | refine cdn ?_ ?_ | refine cds ?_ ?_ | refine gpn ?_ ?_ | refine gps ?_ ?_) <;> intro h <;> (try simp only [dt, df, gi, gt] at h) <;> try simp -implicitDefEqProofs only [go_sem, *]) | ((with_reducible refine And.intro ?_ ?_); (· first | omega | (simp only [List.length_take]; omega)); try simp -implicitDefEqProofs only [go_sem, *]) | ((with_reducible refine enter_fn (hcp) ?_ ?_); (· rfl); try simp -implicitDefEqProofs only [go_sem, *])))
  refine cp_loop (fun i : Nat => ⟨(pgs ps :: recs l :: .any :: .any :: nilS :: .own 0 3 0 5 :: I (i : Int) :: .any :: .any :: .any :: .any :: .any :: .any :: .any :: .any :: .any :: .any :: .any :: .any :: .any :: .any :: .any :: .any :: .any :: .any :: .any :: .any :: .any :: .any :: .any :: .any :: .any :: .any :: .any :: .any :: .any :: .any :: .any :: .any :: .any :: .any :: .any :: .any :: .any :: .any :: .any :: .any :: .any :: []), [some ⟨3, (redoTo ps l i).map pA⟩], []⟩) (fun i => i ≤ l.length) (fun i => l.length - i) 0 ?_ ?_ ?_
  · simp
  · refine wk_tm ?_
    repeat (first | exact WL.nil | (with_reducible refine WL.any _ _ _ ?_) | (with_reducible refine WL.same _ _ _ ?_) | (refine WL.eq _ _ _ _ rfl ?_))
  · rintro i hi
    have hb' : i < 4611686018427387904 := by omega
    by_cases hil : i < l.length
    · have hs := redoTo_sz hp hw i hi
      have hs5 := hs.len
      have hok := hw.rok i hil
      obtain ⟨m, hm, hpg⟩ := Rc.ok_page hok
      have hsl := Rc.ok_slot hok
      have hsz : (at' (redoTo ps l i) (at' l (i : Int)).page).vals.length = 3 := by rw [hpg]; exact hs.sz m (by omega)
      have h0 : 0 ≤ (at' l (i : Int)).page := by omega
      have h4 : (at' l (i : Int)).page ≤ 4 := by omega
      clear hpg
      simp -implicitDefEqProofs only [go_sem, h0]
      (repeat' (first | ((with_reducible first | refine gon ?_ ?_ | refine gos ?_ ?_ | refine cdn ?_ ?_ | refine cds ?_ ?_ | refine gpn ?_ ?_ | refine gps ?_ ?_) <;> intro h <;> (try simp only [dt, df, gi, gt] at h) <;> try simp -implicitDefEqProofs only [go_sem, *]) | ((with_reducible refine And.intro ?_ ?_); (· first | omega | (simp only [List.length_take]; omega)); try simp -implicitDefEqProofs only [go_sem, *]) | first | ((with_reducible refine enter_pu (l2Changes_fn _) ?_ ?_ ?_); (· rfl); (· rfl); try simp -implicitDefEqProofs only [go_sem, *]) | ((with_reducible refine cp_draw (id := 7) 13 mixed ?_ ?_ ?_); (· decide +kernel); (· first | (simp only [List.all_cons, List.all_nil, List.length_cons, List.length_nil, Nat.reduceAdd, Nat.reduceLT, decide_true, Bool.and_true, Bool.and_self]; done) | rfl); try simp -implicitDefEqProofs only [go_sem, *]) | ((with_reducible refine pre_enter _ (det_pu (l2Do_fn (at' (redoTo ps l i) (at' l (i : Int)).page) (at' l (i : Int)) _ hsz hsl.2) ?_ ?_) ?_ ?_); (· rfl); (· rfl); (· rfl); try simp -implicitDefEqProofs only [go_sem, *])))
      all_goals first
        | (exfalso; omega)
        | (rename_i h1 h2
           have e : redoTo ps l (i + 1) = (redoTo ps l i).set (at' l (i : Int)).page.toNat (doP (at' (redoTo ps l i) (at' l (i : Int)).page) (at' l (i : Int)) ((i + 1 : Nat) : Int)) := if_pos ⟨h2, h⟩
           refine ⟨i + 1, by omega, by omega, ?_⟩
           rw [e]
           refine WkN.trans (wk_tm ?_) (wk_trunc (S := [some ⟨3, _⟩]) (Nat.le_refl _) rfl (by first | rfl | (simp only [sltB, List.all_cons, List.all_nil, slt_p, slt_I, slt_r, Bool.and_true]; done) | (simp only [sltB, List.all_cons, List.all_nil, slt_p, slt_I, slt_r, Bool.and_true]; rfl))); repeat (first | exact WL.nil | (with_reducible refine WL.any _ _ _ ?_) | (with_reducible refine WL.same _ _ _ ?_) | (refine WL.eq _ _ _ _ rfl ?_)))
        | (have e : redoTo ps l (i + 1) = redoTo ps l i := if_neg (by simp_all)
           refine ⟨i + 1, by omega, by omega, ?_⟩
           rw [e]
           refine WkN.trans (wk_tm ?_) (wk_trunc (S := [some ⟨3, _⟩]) (Nat.le_refl _) rfl (by first | rfl | (simp only [sltB, List.all_cons, List.all_nil, slt_p, slt_I, slt_r, Bool.and_true]; done) | (simp only [sltB, List.all_cons, List.all_nil, slt_p, slt_I, slt_r, Bool.and_true]; rfl))); repeat (first | exact WL.nil | (with_reducible refine WL.any _ _ _ ?_) | (with_reducible refine WL.same _ _ _ ?_) | (refine WL.eq _ _ _ _ rfl ?_)))
    · have hni : ¬ ((i : Int) < (l.length : Int)) := by omega
      simp -implicitDefEqProofs only [go_sem, hni]
      have e : i = l.length := by omega
      subst e
      exact fin_keep [0] (by simp) rfl (keep1 rfl (a2_p _ _)) (rt_own _ rfl) ⟨rfl, rfl⟩
end
section
/-- A call that keeps the places of the objects. -/
theorem enter_keep {P : Program} {f : FuncId} {args : List AV} {Q : AV → Store → Prop} {d : Tmp} {tm : List AV} {S : Store} {mv : List Nat} {K : St → Prop} (h : AFn P f args S (fun r S' mv => Q r S' ∧ mv = []))
    (hk : ∀ r S', Q r S' → K ⟨tm.set d r, S', mv⟩) : afterR P (.enter f args) (some d) ⟨tm, S, mv⟩ K := by
  refine enter_any h ?_
  rintro r S' mv' ⟨hq, rfl⟩
  exact hk r S' hq
theorem l11Undone_fn (ps : List Pg) (l : List Rc) (o0 o1 : AObj) (hp : Sz ps) (hw : Wf l) :
    AFn Tryz.prog 66 [.own 2 3 0 5, recs l] [some o0, some o1, some ⟨3, ps.map pA⟩] (fun r S' mv => (∃ qs : List Pg, r = Bo (undoneB ps l) ∧ S' = [some o0, some o1, some ⟨3, qs.map pA⟩]) ∧ mv = []) := by
  have hlen := hw.len
  refine afn_of Tryz.func66 rfl rfl ?_
  simp -implicitDefEqProofs only [go_sem, Tryz.f66]
  refine cp_loop (fun x : Nat × List Pg => ⟨(.own 2 3 0 5 :: recs l :: .any :: .any :: Bo false :: I (((x.1 + 1 : Nat) : Int)) :: .any :: .any :: .any :: .any :: .any :: .any :: .any :: .any :: .any :: .any :: .any :: .any :: .any :: .any :: .any :: .any :: .any :: .any :: .any :: .any :: .any :: .any :: .any :: .any :: .any :: .any :: .any :: .any :: .any :: .any :: .any :: .any :: .any :: .any :: .any :: .any :: .any :: .any :: .any :: .any :: .any :: .any :: .any :: .any :: .any :: .any :: .any :: .any :: .any :: .any :: .any :: .any :: []), [some o0, some o1, some ⟨3, x.2.map pA⟩], []⟩) (fun x => x.1 ≤ 3 ∧ Sz x.2 ∧ undoFrom l x.2 x.1 = undoFrom l ps 0) (fun x => 3 - x.1) (0, ps) ?_ ?_ ?_
  · exact ⟨by simp, hp, rfl⟩
  · refine wk_tm ?_; repeat (first | exact WL.nil | (with_reducible refine WL.any _ _ _ ?_) | (with_reducible refine WL.same _ _ _ ?_) | (refine WL.eq _ _ _ _ rfl ?_))
  · rintro ⟨t, q⟩ ⟨hi, hq, hg⟩
    simp only at hi hq hg
    have hq5 := hq.len
    have hb : t + 1 < 4611686018427387904 := by omega
    by_cases ht : t < 3
    · have ht' : ((t + 1 : Nat) : Int) ≤ 3 := by omega
      rw [undoFrom_lt ht] at hg
      simp -implicitDefEqProofs only [go_sem, ht']
      (repeat' (first | ((with_reducible first | refine gon ?_ ?_ | refine gos ?_ ?_ | refine cdn ?_ ?_ | refine cds ?_ ?_ | refine gpn ?_ ?_ | refine gps ?_ ?_) <;> intro h <;> (try simp only [dt, df, gi, gt] at h) <;> try simp -implicitDefEqProofs only [go_sem, *]) | ((with_reducible refine And.intro ?_ ?_); (· first | omega | (simp only [List.length_take]; omega)); try simp -implicitDefEqProofs only [go_sem, *]) | first | ((with_reducible refine enter_pu (l3Last_fn l _ ?_) ?_ ?_ ?_); (· (first | assumption | omega | (simp; omega))); (· rfl); (· rfl); try simp -implicitDefEqProofs only [go_sem, *]) | ((with_reducible refine enter_pu (l11Back_fn l _ hw (lastN_le l _)) ?_ ?_ ?_); (· rfl); (· rfl); try simp -implicitDefEqProofs only [go_sem, *])))
      refine cp_loop (fun x : Nat × List Pg => ⟨(.own 2 3 0 5 :: recs l :: .any :: .any :: Bo false :: I (((t + 1 : Nat) : Int)) :: I (backN l x.1) :: .any :: .any :: .any :: .any :: .any :: .any :: .any :: .any :: .any :: .any :: .any :: .any :: .any :: .any :: .any :: .any :: .any :: .any :: .any :: .any :: .any :: .any :: .any :: .any :: .any :: .any :: .any :: .any :: .any :: .any :: .any :: .any :: .any :: .any :: .any :: .any :: .any :: .any :: .any :: .any :: .any :: .any :: .any :: .any :: .any :: .any :: .any :: .any :: .any :: .any :: .any :: []), [some o0, some o1, some ⟨3, x.2.map pA⟩], []⟩) (fun x => x.1 ≤ l.length ∧ Sz x.2 ∧ ((undoAll l x.2 (undosN l x.1)).bind fun q' => undoFrom l q' (t + 1)) = undoFrom l ps 0) (fun x => x.1) (lastN l ((t + 1 : Nat) : Int), q) ?_ ?_ ?_
      · exact ⟨lastN_le l _, hq, hg⟩
      · refine wk_tm ?_; repeat (first | exact WL.nil | (with_reducible refine WL.any _ _ _ ?_) | (with_reducible refine WL.same _ _ _ ?_) | (refine WL.eq _ _ _ _ rfl ?_))
      · clear hg
        rintro ⟨x, q⟩ ⟨hx, hq, hg⟩
        simp only at hx hq hg
        have hq5 := hq.len
        rcases hbk : backN l x with _ | b
        · rw [undosN_zero hbk, undoAll] at hg
          simp -implicitDefEqProofs only [go_sem, hb, hbk]
          (repeat' (first | ((with_reducible first | refine gon ?_ ?_ | refine gos ?_ ?_ | refine cdn ?_ ?_ | refine cds ?_ ?_ | refine gpn ?_ ?_ | refine gps ?_ ?_) <;> intro h <;> (try simp only [dt, df, gi, gt] at h) <;> try simp -implicitDefEqProofs only [go_sem, *]) | ((with_reducible refine And.intro ?_ ?_); (· first | omega | (simp only [List.length_take]; omega)); try simp -implicitDefEqProofs only [go_sem, *]) | fail))
          refine ⟨(t + 1, q), ⟨by simp only; omega, hq, hg⟩, by simp only; omega, ?_⟩
          refine wk_tm ?_; repeat (first | exact WL.nil | (with_reducible refine WL.any _ _ _ ?_) | (with_reducible refine WL.same _ _ _ ?_) | (refine WL.eq _ _ _ _ rfl ?_))
        · have hbx := backN_le l x
          obtain ⟨m, hm, hpv⟩ := hw.prev b (by omega)
          have hok := hw.rok b (by omega)
          obtain ⟨mp, hmp, hpg⟩ := Rc.ok_page hok
          have hsl := Rc.ok_slot hok
          have hsz : (at' q (at' l (b : Int)).page).vals.length = 3 := by rw [hpg]; exact hq.sz mp (by omega)
          have h0 : 0 ≤ (at' l (b : Int)).page := by omega
          have h4 : (at' l (b : Int)).page ≤ 4 := by omega
          have hb3 : b < 4611686018427387904 := by omega
          have hsz' : Sz (q.set (at' l (b : Int)).page.toNat (undoP l q b)) := hq.set _ _ (doP_sz hsz)
          clear hpg
          rw [undosN_succ hbk hpv hm] at hg
          have hbm : Fn1 Tryz.prog 114 [recs l, I (at' l (b : Int)).prev] (I (backN l m)) := by rw [hpv]; exact l11Back_fn l m hw (by omega)
          clear hpv
          have hdo := l2Do_fn (at' q (at' l (b : Int)).page) ((at' l (b : Int)).back 0) (at' q (at' l (b : Int)).page).lsn hsz hsl.2
          have hat := at_set_self q (at' l (b : Int)).page h0 (by omega)
          simp -implicitDefEqProofs only [go_sem, hb, hb3, hbk, h0]
          (repeat' (first | ((with_reducible first | refine gon ?_ ?_ | refine gos ?_ ?_ | refine cdn ?_ ?_ | refine cds ?_ ?_ | refine gpn ?_ ?_ | refine gps ?_ ?_) <;> intro h <;> (try simp only [dt, df, gi, gt] at h) <;> try simp -implicitDefEqProofs only [go_sem, *]) | ((with_reducible refine And.intro ?_ ?_); (· first | omega | (simp only [List.length_take]; omega)); try simp -implicitDefEqProofs only [go_sem, *]) | first | ((with_reducible refine enter_pu (hbm) ?_ ?_ ?_); (· rfl); (· rfl); try simp -implicitDefEqProofs only [go_sem, *]) | ((with_reducible refine cp_draw (id := 8) 19 mixed ?_ ?_ ?_); (· decide +kernel); (· first | (simp only [List.all_cons, List.all_nil, List.length_cons, List.length_nil, Nat.reduceAdd, Nat.reduceLT, decide_true, Bool.and_true, Bool.and_self]; done) | rfl); try simp -implicitDefEqProofs only [go_sem, *]) | ((with_reducible refine pre_enter _ (det_pu (l2Back_fn (at' l (b : Int)) 0) ?_ ?_) ?_ ?_); (· rfl); (· rfl); (· rfl); try simp -implicitDefEqProofs only [go_sem, *]) | ((with_reducible refine pre_enter _ (det_pu (hdo) ?_ ?_) ?_ ?_); (· rfl); (· rfl); (· rfl); try simp -implicitDefEqProofs only [go_sem, *]) | ((with_reducible refine enter_pu (PageOk_fn _) ?_ ?_ ?_); (· rfl); (· rfl); try simp -implicitDefEqProofs only [go_sem, *])))
          · refine fin_same ⟨⟨_, ?_, rfl⟩, rfl⟩
            rw [undoAll_no h] at hg
            rw [undoneB, ← hg]; rfl
          · rw [undoAll_ok h] at hg
            refine ⟨(m, q.set (at' l (b : Int)).page.toNat (undoP l q b)), ⟨by simp only; omega, hsz', hg⟩, by simp only; omega, ?_⟩
            refine wk_tm ?_; repeat (first | exact WL.nil | (with_reducible refine WL.any _ _ _ ?_) | (with_reducible refine WL.same _ _ _ ?_) | (refine WL.eq _ _ _ _ rfl ?_))
    · have ht' : ¬ (((t + 1 : Nat) : Int) ≤ 3) := by omega
      rw [undoFrom_ge ht] at hg
      simp -implicitDefEqProofs only [go_sem, ht']
      exact fin_same ⟨⟨q, by rw [undoneB, ← hg]; rfl, rfl⟩, rfl⟩
end
section
theorem ends_fn (r : Rc) : Fn1 Tryz.prog 119 [rA r] (Bo r.ends) := by
  refine fn1_of Tryz.func119 rfl rfl ?_
  simp -implicitDefEqProofs only [go_sem, Tryz.f119]
  (repeat' (first | ((with_reducible first | refine gon ?_ ?_ | refine gos ?_ ?_ | refine cdn ?_ ?_ | refine cds ?_ ?_ | refine gpn ?_ ?_ | refine gps ?_ ?_) <;> intro h <;> (try simp only [dt, df, gi, gt] at h) <;> try simp -implicitDefEqProofs only [go_sem, *]) | ((with_reducible refine And.intro ?_ ?_); (· first | omega | (simp only [List.length_take]; omega)); try simp -implicitDefEqProofs only [go_sem, *]) | fail))
  all_goals try ((with_reducible refine fin_pu ?_ ?_); (· (simp_all [Rc.ends]) <;> (first | omega | (rw [Bool.eq_iff_iff]; simp; done) | (rw [Bool.eq_iff_iff]; simp; omega) | (split <;> (first | rfl | omega | (simp_all; done))))); (· rfl))
theorem changes_fn (r : Rc) : Fn1 Tryz.prog 133 [rA r] (Bo (chg r.kind)) := by
  refine fn1_of Tryz.func133 rfl rfl ?_
  simp -implicitDefEqProofs only [go_sem, Tryz.f133]
  (repeat' (first | ((with_reducible first | refine gon ?_ ?_ | refine gos ?_ ?_ | refine cdn ?_ ?_ | refine cds ?_ ?_ | refine gpn ?_ ?_ | refine gps ?_ ?_) <;> intro h <;> (try simp only [dt, df, gi, gt] at h) <;> try simp -implicitDefEqProofs only [go_sem, *]) | ((with_reducible refine And.intro ?_ ?_); (· first | omega | (simp only [List.length_take]; omega)); try simp -implicitDefEqProofs only [go_sem, *]) | fail))
  all_goals try ((with_reducible refine fin_pu ?_ ?_); (· (simp_all [chg]) <;> (first | omega | (rw [Bool.eq_iff_iff]; simp; done) | (rw [Bool.eq_iff_iff]; simp; omega) | (split <;> (first | rfl | omega | (simp_all; done))))); (· rfl))
theorem back_fn (r : Rc) (n : Int) : Fn1 Tryz.prog 155 [rA r, I n] (rA (r.back n)) := by
  refine fn1_of Tryz.func155 rfl rfl ?_
  simp -implicitDefEqProofs only [go_sem, Tryz.f155]
  (repeat' (first | ((with_reducible first | refine gon ?_ ?_ | refine gos ?_ ?_ | refine cdn ?_ ?_ | refine cds ?_ ?_ | refine gpn ?_ ?_ | refine gps ?_ ?_) <;> intro h <;> (try simp only [dt, df, gi, gt] at h) <;> try simp -implicitDefEqProofs only [go_sem, *]) | ((with_reducible refine And.intro ?_ ?_); (· first | omega | (simp only [List.length_take]; omega)); try simp -implicitDefEqProofs only [go_sem, *]) | fail))
  exact fin_pu rfl rfl
theorem toUndo_fn (l : List Rc) (n : Nat) (hw : Wf l) (hn : n ≤ l.length) : Fn1 Tryz.prog 175 [recs l, I n] (I (backN l n)) := by
  have hb : l.length < 4611686018427387904 := by have := hw.len; omega
  refine fn1_of Tryz.func175 rfl rfl ?_
  simp -implicitDefEqProofs only [go_sem, Tryz.f175]
  refine cp_loop (fun k : Nat => ⟨(recs l :: I (k : Int) :: .any :: .any :: I 0 :: .any :: .any :: .any :: .any :: .any :: .any :: .any :: .any :: .any :: .any :: .any :: .any :: .any :: .any :: .any :: .any :: .any :: .any :: .any :: .any :: []), [], []⟩) (fun k => k ≤ l.length ∧ backN l k = backN l n) (fun n => n) n ?_ ?_ ?_
  · exact ⟨hn, rfl⟩
  · refine wk_tm ?_; repeat (first | exact WL.nil | (with_reducible refine WL.any _ _ _ ?_) | (with_reducible refine WL.same _ _ _ ?_) | (refine WL.eq _ _ _ _ rfl ?_))
  · rintro k ⟨hi, hg⟩
    rcases k with _ | k
    · simp -implicitDefEqProofs only [go_sem, true_and]
      (repeat' (first | ((with_reducible first | refine gon ?_ ?_ | refine gos ?_ ?_ | refine cdn ?_ ?_ | refine cds ?_ ?_ | refine gpn ?_ ?_ | refine gps ?_ ?_) <;> intro h <;> (try simp only [dt, df, gi, gt] at h) <;> try simp -implicitDefEqProofs only [go_sem, *]) | ((with_reducible refine And.intro ?_ ?_); (· first | omega | (simp only [List.length_take]; omega)); try simp -implicitDefEqProofs only [go_sem, *]) | fail))
      all_goals first | ((with_reducible refine ⟨0, ⟨by omega, ?_⟩, by omega, wk_tm ?_⟩); (· (rw [← hg]; clear hg; (simp_all [backN_zero]) <;> (first | omega | (rw [Bool.eq_iff_iff]; simp; done) | (rw [Bool.eq_iff_iff]; simp; omega) | (split <;> (first | rfl | omega | (simp_all; done)))))); (· repeat (first | exact WL.nil | (with_reducible refine WL.any _ _ _ ?_) | (with_reducible refine WL.same _ _ _ ?_) | (refine WL.eq _ _ _ _ rfl ?_)))) | ((with_reducible refine fin_pu ?_ ?_); (· (rw [← hg]; first | done | (clear hg; (simp_all [backN_zero]) <;> (first | omega | (rw [Bool.eq_iff_iff]; simp; done) | (rw [Bool.eq_iff_iff]; simp; omega) | (split <;> (first | rfl | omega | (simp_all; done))))))); (· rfl))
    · obtain ⟨m, hm, hp⟩ := hw.prev k (by omega)
      obtain ⟨m', hm', hp'⟩ := hw.next k (by omega)
      have hb : k < 4611686018427387904 := by omega
      simp -implicitDefEqProofs only [go_sem, hb, hp, hp']
      (repeat' (first | ((with_reducible first | refine gon ?_ ?_ | refine gos ?_ ?_ | refine cdn ?_ ?_ | refine cds ?_ ?_ | refine gpn ?_ ?_ | refine gps ?_ ?_) <;> intro h <;> (try simp only [dt, df, gi, gt] at h) <;> try simp -implicitDefEqProofs only [go_sem, *]) | ((with_reducible refine And.intro ?_ ?_); (· first | omega | (simp only [List.length_take]; omega)); try simp -implicitDefEqProofs only [go_sem, *]) | fail))
      all_goals first
        | ((with_reducible refine fin_pu ?_ ?_); (· (rw [← hg, backN_hit (by simp_all)]; done)); (· rfl))
        | ((with_reducible refine ⟨m', ⟨by omega, ?_⟩, by omega, ?_⟩); (· rw [← hg, backN_undo (by simpa using h) hp' hm']); (· refine WkN.trans (wk_tm ?_) (wk_trunc (S := []) (Nat.le_refl _) rfl (by first | rfl | (simp only [sltB, List.all_cons, List.all_nil, slt_p, slt_I, slt_r, Bool.and_true]; done) | (simp only [sltB, List.all_cons, List.all_nil, slt_p, slt_I, slt_r, Bool.and_true]; rfl))); repeat (first | exact WL.nil | (with_reducible refine WL.any _ _ _ ?_) | (with_reducible refine WL.same _ _ _ ?_) | (refine WL.eq _ _ _ _ rfl ?_))))
        | ((with_reducible refine ⟨m, ⟨by omega, ?_⟩, by omega, ?_⟩); (· rw [← hg, backN_prev (by simp_all) (by simp_all) (by simp_all) hp hm]); (· refine WkN.trans (wk_tm ?_) (wk_trunc (S := []) (Nat.le_refl _) rfl (by first | rfl | (simp only [sltB, List.all_cons, List.all_nil, slt_p, slt_I, slt_r, Bool.and_true]; done) | (simp only [sltB, List.all_cons, List.all_nil, slt_p, slt_I, slt_r, Bool.and_true]; rfl))); repeat (first | exact WL.nil | (with_reducible refine WL.any _ _ _ ?_) | (with_reducible refine WL.same _ _ _ ?_) | (refine WL.eq _ _ _ _ rfl ?_))))
/-- The first place of a range where something holds; -1, if there is none. -/
def firstIdx (f : Nat → Bool) (i n : Nat) : Int := if h : i < n then (if f i then (i : Int) else firstIdx f (i + 1) n) else -1
termination_by n - i
theorem firstIdx_lt {f : Nat → Bool} {i n : Nat} (h : i < n) : firstIdx f i n = if f i then (i : Int) else firstIdx f (i + 1) n := by rw [firstIdx]; simp [h]
theorem firstIdx_ge {f : Nat → Bool} {i n : Nat} (h : ¬ i < n) : firstIdx f i n = -1 := by rw [firstIdx]; simp [h]
theorem firstIdx_any {f : Nat → Bool} {n : Nat} : ∀ {i : Nat}, decide (0 ≤ firstIdx f i n) = anyFrom f i n := by
  intro i
  induction hm : n - i generalizing i with
  | zero => rw [firstIdx_ge (by omega), anyFrom_ge (by omega)]; rfl
  | succ m ih =>
    rw [firstIdx_lt (by omega), anyFrom_lt (by omega), ← ih (by omega)]
    cases f i <;> simp
theorem IndexFunc_int (l : List Int) (g : FuncId) (caps : List AV) (pred : Int → Bool) (hb : l.length < 4611686018427387904) (hc : caps.all AV.pu = true) (hc0 : caps.all AV.pur0 = true) (hg : ∀ n, Fn1 Tryz.prog g (I n :: caps) (Bo (pred n))) :
    Fn1 Tryz.prog 102 [ints l, .clo g caps] (I (firstIdx (fun k => pred (at' l k)) 0 l.length)) := by
  refine fn1_of Tryz.func102 rfl rfl ?_
  simp -implicitDefEqProofs only [go_sem, Tryz.f102]
  refine cp_loop (fun i : Nat => ⟨(ints l :: .clo g caps :: .any :: .any :: I 0 :: .any :: .any :: I (l.length : Int) :: I (i : Int) :: .any :: .any :: .any :: .any :: .any :: .any :: .any :: .any :: .any :: .any :: []), [], []⟩) (fun i => i ≤ l.length ∧ firstIdx (fun k => pred (at' l k)) i l.length = firstIdx (fun k => pred (at' l k)) 0 l.length) (fun i => l.length - i) 0 ?_ ?_ ?_
  · simp
  · refine wk_tm ?_; repeat (first | exact WL.nil | (with_reducible refine WL.any _ _ _ ?_) | (with_reducible refine WL.same _ _ _ ?_) | (refine WL.eq _ _ _ _ rfl ?_))
  · rintro i ⟨hi, hgi⟩
    have hb : i < 4611686018427387904 := by omega
    simp -implicitDefEqProofs only [go_sem, true_and]
    (repeat' (first | ((with_reducible first | refine gon ?_ ?_ | refine gos ?_ ?_ | refine cdn ?_ ?_ | refine cds ?_ ?_ | refine gpn ?_ ?_ | refine gps ?_ ?_) <;> intro h <;> (try simp only [dt, df, gi, gt] at h) <;> try simp -implicitDefEqProofs only [go_sem, *]) | ((with_reducible refine And.intro ?_ ?_); (· first | omega | (simp only [List.length_take]; omega)); try simp -implicitDefEqProofs only [go_sem, *]) | ((with_reducible refine enter_pu (hg _) ?_ ?_ ?_); (· simp only [List.all_cons, hc]; rfl); (· rfl); try simp -implicitDefEqProofs only [go_sem, *])))
    all_goals first | ((with_reducible refine ⟨i + 1, ⟨by omega, ?_⟩, by omega, ?_⟩); (· (rw [← hgi, firstIdx_lt (by omega : i < l.length)]; first | done | (clear hgi; (simp_all [true_and]) <;> (first | omega | (rw [Bool.eq_iff_iff]; simp; done) | (rw [Bool.eq_iff_iff]; simp; omega) | (split <;> (first | rfl | omega | (simp_all; done))))))); (· refine wk_tm ?_; repeat (first | exact WL.nil | (with_reducible refine WL.any _ _ _ ?_) | (with_reducible refine WL.same _ _ _ ?_) | (refine WL.eq _ _ _ _ rfl ?_)))) | ((with_reducible refine fin_pu ?_ ?_); (· (rw [← hgi, firstIdx_lt (by omega : i < l.length)]; first | done | (clear hgi; (simp_all [true_and]) <;> (first | omega | (rw [Bool.eq_iff_iff]; simp; done) | (rw [Bool.eq_iff_iff]; simp; omega) | (split <;> (first | rfl | omega | (simp_all; done))))))); (· rfl)) | ((with_reducible refine fin_pu ?_ ?_); (· (rw [← hgi, firstIdx_ge (by omega : ¬ i < l.length)]; first | done | (clear hgi; (simp_all [true_and]) <;> (first | omega | (rw [Bool.eq_iff_iff]; simp; done) | (rw [Bool.eq_iff_iff]; simp; omega) | (split <;> (first | rfl | omega | (simp_all; done))))))); (· rfl))
theorem ContainsFunc_int (l : List Int) (g : FuncId) (caps : List AV) (pred : Int → Bool) (hb : l.length < 4611686018427387904) (hc : caps.all AV.pu = true) (hc0 : caps.all AV.pur0 = true) (hg : ∀ n, Fn1 Tryz.prog g (I n :: caps) (Bo (pred n))) :
    Fn1 Tryz.prog 44 [ints l, .clo g caps] (Bo (anyFrom (fun k => pred (at' l k)) 0 l.length)) := by
  refine fn1_of Tryz.func44 rfl rfl ?_
  simp -implicitDefEqProofs only [go_sem, Tryz.f44]
  (repeat' (first | ((with_reducible first | refine gon ?_ ?_ | refine gos ?_ ?_ | refine cdn ?_ ?_ | refine cds ?_ ?_ | refine gpn ?_ ?_ | refine gps ?_ ?_) <;> intro h <;> (try simp only [dt, df, gi, gt] at h) <;> try simp -implicitDefEqProofs only [go_sem, *]) | ((with_reducible refine And.intro ?_ ?_); (· first | omega | (simp only [List.length_take]; omega)); try simp -implicitDefEqProofs only [go_sem, *]) | ((with_reducible refine enter_pu (IndexFunc_int l g caps pred hb hc hc0 hg) ?_ ?_ ?_); (· simp only [List.all_cons, List.all_nil, AV.pu, hc0]; rfl); (· rfl); try simp -implicitDefEqProofs only [go_sem, *])))
  refine fin_pu ?_ rfl
  rw [← firstIdx_any]
theorem valsOk1_fn (n : Int) : Fn1 Tryz.prog 101 [I n] (Bo (!isIn n 0 9)) := by
  refine fn1_of Tryz.func101 rfl rfl ?_
  simp -implicitDefEqProofs only [go_sem, Tryz.f101]
  (repeat' (first | ((with_reducible first | refine gon ?_ ?_ | refine gos ?_ ?_ | refine cdn ?_ ?_ | refine cds ?_ ?_ | refine gpn ?_ ?_ | refine gps ?_ ?_) <;> intro h <;> (try simp only [dt, df, gi, gt] at h) <;> try simp -implicitDefEqProofs only [go_sem, *]) | ((with_reducible refine And.intro ?_ ?_); (· first | omega | (simp only [List.length_take]; omega)); try simp -implicitDefEqProofs only [go_sem, *]) | ((with_reducible refine enter_pu (in_fn _ _ _) ?_ ?_ ?_); (· rfl); (· rfl); try simp -implicitDefEqProofs only [go_sem, *])))
  all_goals try ((with_reducible refine fin_pu ?_ ?_); (· (simp_all [true_and]) <;> (first | omega | (rw [Bool.eq_iff_iff]; simp; done) | (rw [Bool.eq_iff_iff]; simp; omega) | (split <;> (first | rfl | omega | (simp_all; done))))); (· rfl))
theorem allZero1_fn (n : Int) : Fn1 Tryz.prog 143 [I n] (Bo (n != 0)) := by
  refine fn1_of Tryz.func143 rfl rfl ?_
  simp -implicitDefEqProofs only [go_sem, Tryz.f143]
  all_goals try ((with_reducible refine fin_pu ?_ ?_); (· (simp_all [true_and]) <;> (first | omega | (rw [Bool.eq_iff_iff]; simp; done) | (rw [Bool.eq_iff_iff]; simp; omega) | (split <;> (first | rfl | omega | (simp_all; done))))); (· rfl))
def valsOk (l : List Int) : Bool := decide (l.length = 3) && !anyFrom (fun k => !isIn (at' l k) 0 9) 0 l.length
def allZero (l : List Int) : Bool := !anyFrom (fun k => at' l (k : Int) != 0) 0 l.length
theorem valsOk_fn (l : List Int) (hb : l.length < 4611686018427387904) : Fn1 Tryz.prog 43 [ints l] (Bo (valsOk l)) := by
  refine fn1_of Tryz.func43 rfl rfl ?_
  simp -implicitDefEqProofs only [go_sem, Tryz.f43]
  (repeat' (first | ((with_reducible first | refine gon ?_ ?_ | refine gos ?_ ?_ | refine cdn ?_ ?_ | refine cds ?_ ?_ | refine gpn ?_ ?_ | refine gps ?_ ?_) <;> intro h <;> (try simp only [dt, df, gi, gt] at h) <;> try simp -implicitDefEqProofs only [go_sem, *]) | ((with_reducible refine And.intro ?_ ?_); (· first | omega | (simp only [List.length_take]; omega)); try simp -implicitDefEqProofs only [go_sem, *]) | ((with_reducible refine enter_pu (ContainsFunc_int l _ [] _ hb rfl rfl valsOk1_fn) ?_ ?_ ?_); (· rfl); (· rfl); try simp -implicitDefEqProofs only [go_sem, *])))
  all_goals try ((with_reducible refine fin_pu ?_ ?_); (· (simp_all [valsOk]) <;> (first | omega | (rw [Bool.eq_iff_iff]; simp; done) | (rw [Bool.eq_iff_iff]; simp; omega) | (split <;> (first | rfl | omega | (simp_all; done))))); (· rfl))
theorem allZero_fn (l : List Int) (hb : l.length < 4611686018427387904) : Fn1 Tryz.prog 100 [ints l] (Bo (allZero l)) := by
  refine fn1_of Tryz.func100 rfl rfl ?_
  simp -implicitDefEqProofs only [go_sem, Tryz.f100]
  (repeat' (first | ((with_reducible first | refine gon ?_ ?_ | refine gos ?_ ?_ | refine cdn ?_ ?_ | refine cds ?_ ?_ | refine gpn ?_ ?_ | refine gps ?_ ?_) <;> intro h <;> (try simp only [dt, df, gi, gt] at h) <;> try simp -implicitDefEqProofs only [go_sem, *]) | ((with_reducible refine And.intro ?_ ?_); (· first | omega | (simp only [List.length_take]; omega)); try simp -implicitDefEqProofs only [go_sem, *]) | ((with_reducible refine enter_pu (ContainsFunc_int l _ [] _ hb rfl rfl allZero1_fn) ?_ ?_ ?_); (· rfl); (· rfl); try simp -implicitDefEqProofs only [go_sem, *])))
  all_goals try ((with_reducible refine fin_pu ?_ ?_); (· (simp_all [allZero]) <;> (first | omega | (rw [Bool.eq_iff_iff]; simp; done) | (rw [Bool.eq_iff_iff]; simp; omega) | (split <;> (first | rfl | omega | (simp_all; done))))); (· rfl))
theorem ok_eq (p : Pg) : p.ok = (isIn p.lsn 0 150 && isIn p.owner 0 3 && valsOk p.vals && (p.owner != 0 || allZero p.vals)) := by
  unfold Pg.ok valsOk allZero
  rw [Bool.eq_iff_iff]
  simp only [Bool.and_eq_true, Bool.or_eq_true, Bool.not_eq_true', decide_eq_true_eq, allFrom_iff, ← Bool.not_eq_true, anyFrom_iff, Pg.good, bne_iff_ne, beq_iff_eq]
  constructor
  · rintro ⟨⟨h1, h2⟩, h3⟩
    refine ⟨⟨h1, h2, fun ⟨k, _, hk, hn⟩ => hn (h3 k (Nat.zero_le _) hk).1⟩, ?_⟩
    by_cases ho : p.owner = 0
    · right
      rintro ⟨k, _, hk, hn⟩
      rcases (h3 k (Nat.zero_le _) hk).2 with h | h
      · exact h ho
      · exact hn h
    · exact .inl ho
  · rintro ⟨⟨h1, h2, h3⟩, h4⟩
    refine ⟨⟨h1, h2⟩, fun k _ hk => ⟨?_, ?_⟩⟩
    · apply Classical.byContradiction
      intro hn
      exact h3 ⟨k, Nat.zero_le _, hk, hn⟩
    · rcases h4 with h | h
      · exact .inl h
      · right
        apply Classical.byContradiction
        intro hn
        exact h ⟨k, Nat.zero_le _, hk, hn⟩
theorem PageOkI_fn (p : Pg) (hb : p.vals.length < 4611686018427387904) : Fn1 Tryz.prog 99 [pA p] (Bo p.ok) := by
  refine fn1_of Tryz.func99 rfl rfl ?_
  simp -implicitDefEqProofs only [go_sem, Tryz.f99]
  (repeat' (first | ((with_reducible first | refine gon ?_ ?_ | refine gos ?_ ?_ | refine cdn ?_ ?_ | refine cds ?_ ?_ | refine gpn ?_ ?_ | refine gps ?_ ?_) <;> intro h <;> (try simp only [dt, df, gi, gt] at h) <;> try simp -implicitDefEqProofs only [go_sem, *]) | ((with_reducible refine And.intro ?_ ?_); (· first | omega | (simp only [List.length_take]; omega)); try simp -implicitDefEqProofs only [go_sem, *]) | first | ((with_reducible refine enter_pu (in_fn _ _ _) ?_ ?_ ?_); (· rfl); (· rfl); try simp -implicitDefEqProofs only [go_sem, *]) | ((with_reducible refine enter_pu (valsOk_fn p.vals hb) ?_ ?_ ?_); (· rfl); (· rfl); try simp -implicitDefEqProofs only [go_sem, *]) | ((with_reducible refine enter_pu (allZero_fn p.vals hb) ?_ ?_ ?_); (· rfl); (· rfl); try simp -implicitDefEqProofs only [go_sem, *])))
  all_goals (refine fin_pu ?_ rfl; rw [ok_eq]; simp_all)
end
section
/-- The contract of impl.last (proved elsewhere). -/
abbrev LastC : Prop := ∀ (l : List Rc) (tx : Int), l.length < 1000000 → Fn1 Tryz.prog 84 [recs l, I tx] (I (lastN l tx))
def openTo (l : List Rc) : Nat → List Int
  | 0 => []
  | t + 1 => if lastN l ((t + 1 : Nat) : Int) = 0 then openTo l t else openTo l t ++ [((t + 1 : Nat) : Int)]
theorem openTo_len (l : List Rc) : ∀ t, (openTo l t).length ≤ t
  | 0 => Nat.le_refl _
  | t + 1 => by
    have := openTo_len l t
    unfold openTo
    split
    · omega
    · simp; omega
theorem open_fn (hl : LastC) (l : List Rc) (hb : l.length < 1000000) : Fn1 Tryz.prog 135 [recs l] (ints (openTo l 3)) := by
  refine fn1_of Tryz.func135 rfl rfl ?_
  simp -implicitDefEqProofs only [go_sem, Tryz.f135]
  refine cp_loop (fun t : Nat => ⟨(recs l :: .any :: nilS :: .own 0 1 0 (openTo l t).length :: I (((t + 1 : Nat) : Int)) :: .any :: .any :: .any :: .any :: .any :: .any :: .any :: .any :: .any :: .any :: .any :: .any :: .any :: []), [some ⟨1, (openTo l t).map I⟩], [0]⟩) (fun t => t ≤ 3) (fun t => 3 - t) 0 ?_ ?_ ?_
  · simp
  · refine WkN.trans (wk_nil 3 1 (by omega) rfl) (WkN.trans (wk_tm ?_) (wk_mv (by simp))); simp only [List.set_cons_succ, List.set_cons_zero, List.length_nil, List.length_cons]; repeat (first | exact WL.nil | (with_reducible refine WL.any _ _ _ ?_) | (with_reducible refine WL.same _ _ _ ?_) | (refine WL.eq _ _ _ _ rfl ?_))
  · rintro t hi
    have hb : t + 1 < 4611686018427387904 := by omega
    have hlen := openTo_len l t
    simp -implicitDefEqProofs only [go_sem, true_and]
    (repeat' (first | ((with_reducible first | refine gon ?_ ?_ | refine gos ?_ ?_ | refine cdn ?_ ?_ | refine cds ?_ ?_ | refine gpn ?_ ?_ | refine gps ?_ ?_) <;> intro h <;> (try simp only [dt, df, gi, gt] at h) <;> try simp -implicitDefEqProofs only [go_sem, *]) | ((with_reducible refine And.intro ?_ ?_); (· first | omega | (simp only [List.length_take]; omega)); try simp -implicitDefEqProofs only [go_sem, *]) | ((with_reducible refine enter_pu (hl l _ (by omega)) ?_ ?_ ?_); (· rfl); (· rfl); try simp -implicitDefEqProofs only [go_sem, *])))
    · have e : openTo l (t + 1) = openTo l t ++ [((t + 1 : Nat) : Int)] := if_neg (by simpa using h)
      refine ⟨t + 1, by omega, by omega, ?_⟩
      simp only [e, List.length_append, List.length_cons, List.length_nil]
      refine WkN.trans (WkN.trans (wk_tm ?_) (wk_trunc (S := [some ⟨1, _⟩]) (Nat.le_refl _) rfl (by first | rfl | (simp only [sltB, List.all_cons, List.all_nil, slt_p, slt_I, slt_r, Bool.and_true]; done) | (simp only [sltB, List.all_cons, List.all_nil, slt_p, slt_I, slt_r, Bool.and_true]; rfl)))) (wk_mv (by simp)); repeat (first | exact WL.nil | (with_reducible refine WL.any _ _ _ ?_) | (with_reducible refine WL.same _ _ _ ?_) | (refine WL.eq _ _ _ _ rfl ?_))
    · have e : openTo l (t + 1) = openTo l t := if_pos (by simpa using h)
      refine ⟨t + 1, by omega, by omega, ?_⟩
      simp only [e]
      refine wk_tm ?_; repeat (first | exact WL.nil | (with_reducible refine WL.any _ _ _ ?_) | (with_reducible refine WL.same _ _ _ ?_) | (refine WL.eq _ _ _ _ rfl ?_))
    · have e : t = 3 := by omega
      subst e
      exact fin_1 (argT0 (arg0_I rfl rfl))
theorem undos_fn (hl : LastC) (l : List Rc) (tx : Int) (hw : Wf l) : Fn1 Tryz.prog 154 [recs l, I tx] (ints ((undosN l (lastN l tx)).map fun n : Nat => (n : Int))) := by
  have hlen := hw.len
  refine fn1_of Tryz.func154 rfl rfl ?_
  simp -implicitDefEqProofs only [go_sem, Tryz.f154]
  (repeat' (first | ((with_reducible first | refine gon ?_ ?_ | refine gos ?_ ?_ | refine cdn ?_ ?_ | refine cds ?_ ?_ | refine gpn ?_ ?_ | refine gps ?_ ?_) <;> intro h <;> (try simp only [dt, df, gi, gt] at h) <;> try simp -implicitDefEqProofs only [go_sem, *]) | ((with_reducible refine And.intro ?_ ?_); (· first | omega | (simp only [List.length_take]; omega)); try simp -implicitDefEqProofs only [go_sem, *]) | first | ((with_reducible refine enter_pu (hl l _ (by omega)) ?_ ?_ ?_); (· rfl); (· rfl); try simp -implicitDefEqProofs only [go_sem, *]) | ((with_reducible refine enter_pu (toUndo_fn l _ hw (lastN_le l _)) ?_ ?_ ?_); (· rfl); (· rfl); try simp -implicitDefEqProofs only [go_sem, *])))
  refine cp_loop (fun x : Nat × List Nat => ⟨(recs l :: I tx :: .any :: .any :: nilS :: .own 0 1 0 x.2.length :: I (backN l x.1) :: .any :: .any :: .any :: .any :: .any :: .any :: .any :: .any :: .any :: .any :: .any :: .any :: .any :: .any :: .any :: .any :: .any :: .any :: .any :: .any :: []), [some ⟨1, (x.2.map fun n : Nat => (n : Int)).map I⟩], [0]⟩) (fun x => x.1 ≤ l.length ∧ x.2.length + x.1 ≤ l.length ∧ x.2 ++ undosN l x.1 = undosN l (lastN l tx)) (fun x => x.1) (lastN l tx, []) ?_ ?_ ?_
  · exact ⟨lastN_le l _, by simpa using lastN_le l _, rfl⟩
  · refine WkN.trans (wk_nil 5 1 (by omega) rfl) (WkN.trans (wk_tm ?_) (wk_mv (by simp))); simp only [List.set_cons_succ, List.set_cons_zero, List.length_nil, List.length_cons]; repeat (first | exact WL.nil | (with_reducible refine WL.any _ _ _ ?_) | (with_reducible refine WL.same _ _ _ ?_) | (refine WL.eq _ _ _ _ rfl ?_))
  · rintro ⟨x, c⟩ ⟨hx, hxc, hg⟩
    simp only at hx hxc hg
    rcases hbk : backN l x with _ | b
    · rw [undosN_zero hbk, List.append_nil] at hg
      simp -implicitDefEqProofs only [go_sem, hbk]
      rw [← hg]
      exact fin_1 (argT0 (arg0_I rfl (by simp)))
    · have hbx := backN_le l x
      obtain ⟨m, hm, hp⟩ := hw.prev b (by omega)
      have hb3 : b < 4611686018427387904 := by omega
      rw [undosN_succ hbk hp hm] at hg
      simp -implicitDefEqProofs only [go_sem, hb3, hbk, hp]
      (repeat' (first | ((with_reducible first | refine gon ?_ ?_ | refine gos ?_ ?_ | refine cdn ?_ ?_ | refine cds ?_ ?_ | refine gpn ?_ ?_ | refine gps ?_ ?_) <;> intro h <;> (try simp only [dt, df, gi, gt] at h) <;> try simp -implicitDefEqProofs only [go_sem, *]) | ((with_reducible refine And.intro ?_ ?_); (· first | omega | (simp only [List.length_take]; omega)); try simp -implicitDefEqProofs only [go_sem, *]) | ((with_reducible refine enter_pu (toUndo_fn l _ hw (by omega)) ?_ ?_ ?_); (· rfl); (· rfl); try simp -implicitDefEqProofs only [go_sem, *])))
      have e : (List.map (fun n : Nat => (n : Int)) c ++ [((b + 1 : Nat) : Int)]) = List.map (fun n : Nat => (n : Int)) (c ++ [b + 1]) := by simp
      rw [e]
      refine ⟨(m, c ++ [b + 1]), ⟨by simp only; omega, by simp only [List.length_append, List.length_cons, List.length_nil]; omega, by simp only [List.append_assoc, List.cons_append, List.nil_append]; exact hg⟩, by simp only; omega, ?_⟩
      simp only [List.length_append, List.length_cons, List.length_nil]
      refine WkN.trans (WkN.trans (wk_tm ?_) (wk_trunc (S := [some ⟨1, _⟩]) (Nat.le_refl _) rfl (by first | rfl | (simp only [sltB, List.all_cons, List.all_nil, slt_p, slt_I, slt_r, Bool.and_true]; done) | (simp only [sltB, List.all_cons, List.all_nil, slt_p, slt_I, slt_r, Bool.and_true]; rfl)))) (wk_mv (by simp)); repeat (first | exact WL.nil | (with_reducible refine WL.any _ _ _ ?_) | (with_reducible refine WL.same _ _ _ ?_) | (refine WL.eq _ _ _ _ rfl ?_))
/-- What undoing costs, over the first n of some transactions. -/
def costTo (l : List Rc) (xs : List Int) : Nat → Nat
  | 0 => 0
  | n + 1 => costTo l xs n + ((undosN l (lastN l (at' xs (n : Int)))).length + 1)
theorem costTo_le (l : List Rc) (hw : Wf l) (xs : List Int) : ∀ n, costTo l xs n ≤ 201 * n
  | 0 => Nat.le_refl _
  | n + 1 => by
    have h1 := costTo_le l hw xs n
    have h2 := undosN_len l (lastN l (at' xs (n : Int)))
    have h3 := lastN_le l (at' xs (n : Int))
    have h4 := hw.len
    unfold costTo
    omega
theorem costTo_app (l : List Rc) (xs ys : List Int) : ∀ n, n ≤ xs.length → costTo l (xs ++ ys) n = costTo l xs n
  | 0, _ => rfl
  | n + 1, h => by
    unfold costTo
    rw [costTo_app l xs ys n (by omega)]
    have : at' (xs ++ ys) (n : Int) = at' xs (n : Int) := by simp [at', List.getD, List.getElem?_append_left (show n < xs.length by omega)]
    rw [this]
theorem costTo_open (l : List Rc) : ∀ t, costTo l (openTo l t) (openTo l t).length = needTo l t
  | 0 => rfl
  | t + 1 => by
    have ih := costTo_open l t
    unfold openTo needTo needFor
    split
    · rename_i h
      rw [ih, h, undosN_zero (backN_zero l)]
      simp
    · rename_i h
      rw [List.length_append, List.length_cons, List.length_nil]
      unfold costTo
      rw [costTo_app l _ _ _ (Nat.le_refl _), ih]
      have : at' (openTo l t ++ [((t + 1 : Nat) : Int)]) (((openTo l t).length : Nat) : Int) = ((t + 1 : Nat) : Int) := by simp [at', List.getD]
      rw [this, if_pos (by omega)]
      omega
theorem cost_fn (hl : LastC) (l : List Rc) (hw : Wf l) : Fn1 Tryz.prog 130 [recs l] (I (needTo l 3)) := by
  have hlen := hw.len
  have hol := openTo_len l 3
  refine fn1_of Tryz.func130 rfl rfl ?_
  simp -implicitDefEqProofs only [go_sem, Tryz.f130]
  (repeat' (first | ((with_reducible first | refine gon ?_ ?_ | refine gos ?_ ?_ | refine cdn ?_ ?_ | refine cds ?_ ?_ | refine gpn ?_ ?_ | refine gps ?_ ?_) <;> intro h <;> (try simp only [dt, df, gi, gt] at h) <;> try simp -implicitDefEqProofs only [go_sem, *]) | ((with_reducible refine And.intro ?_ ?_); (· first | omega | (simp only [List.length_take]; omega)); try simp -implicitDefEqProofs only [go_sem, *]) | ((with_reducible refine enter_pu (open_fn hl l (by omega)) ?_ ?_ ?_); (· rfl); (· rfl); try simp -implicitDefEqProofs only [go_sem, *])))
  refine cp_loop (fun i : Nat => ⟨(recs l :: .any :: I 0 :: I (costTo l (openTo l 3) i) :: .any :: .any :: .any :: ints (openTo l 3) :: I ((openTo l 3).length : Int) :: I (i : Int) :: .any :: .any :: .any :: .any :: .any :: .any :: .any :: .any :: .any :: .any :: .any :: .any :: []), [], []⟩) (fun i => i ≤ (openTo l 3).length) (fun i => (openTo l 3).length - i) 0 ?_ ?_ ?_
  · simp
  · refine wk_tm ?_; repeat (first | exact WL.nil | (with_reducible refine WL.any _ _ _ ?_) | (with_reducible refine WL.same _ _ _ ?_) | (refine WL.eq _ _ _ _ rfl ?_))
  · rintro i hi
    have hb : i < 4611686018427387904 := by omega
    have h1 := costTo_le l hw (openTo l 3) i
    have h2 := undosN_len l (lastN l (at' (openTo l 3) (i : Int)))
    have h3 := lastN_le l (at' (openTo l 3) (i : Int))
    have hu : (undosN l (lastN l (at' (openTo l 3) (i : Int)))).length < 4611686018427387904 := by omega
    have hadd : IntKind.i64.wrap (((costTo l (openTo l 3) i : Nat) : Int) + (((undosN l (lastN l (at' (openTo l 3) (i : Int)))).length + 1 : Nat) : Int)) = ((costTo l (openTo l 3) (i + 1) : Nat) : Int) := by
      rw [wrap_ok (by omega) (by omega)]; simp [costTo]
    clear h1 h2 h3
    simp -implicitDefEqProofs only [go_sem, true_and]
    (repeat' (first | ((with_reducible first | refine gon ?_ ?_ | refine gos ?_ ?_ | refine cdn ?_ ?_ | refine cds ?_ ?_ | refine gpn ?_ ?_ | refine gps ?_ ?_) <;> intro h <;> (try simp only [dt, df, gi, gt] at h) <;> try simp -implicitDefEqProofs only [go_sem, *]) | ((with_reducible refine And.intro ?_ ?_); (· first | omega | (simp only [List.length_take]; omega)); try simp -implicitDefEqProofs only [go_sem, *]) | ((with_reducible refine enter_pu (undos_fn hl l _ hw) ?_ ?_ ?_); (· rfl); (· rfl); try simp -implicitDefEqProofs only [go_sem, *])))
    · refine ⟨i + 1, by omega, by omega, ?_⟩
      refine wk_tm ?_; repeat (first | exact WL.nil | (with_reducible refine WL.any _ _ _ ?_) | (with_reducible refine WL.same _ _ _ ?_) | (refine WL.eq _ _ _ _ rfl ?_))
    · have e : i = (openTo l 3).length := by omega
      refine fin_pu ?_ rfl
      rw [e, costTo_open]
theorem fits_fn (hl : LastC) (l : List Rc) (hw : Wf l) : Fn1 Tryz.prog 87 [recs l] (Bo (decide (l.length + needTo l 3 ≤ 150))) := by
  have hlen := hw.len
  have hn := needTo_le l hw 3
  have hadd : IntKind.i64.wrap (((l.length : Nat) : Int) + ((needTo l 3 : Nat) : Int)) = ((l.length + needTo l 3 : Nat) : Int) := by
    rw [wrap_ok (by omega) (by omega)]; simp
  clear hn
  refine fn1_of Tryz.func87 rfl rfl ?_
  simp -implicitDefEqProofs only [go_sem, Tryz.f87]
  (repeat' (first | ((with_reducible first | refine gon ?_ ?_ | refine gos ?_ ?_ | refine cdn ?_ ?_ | refine cds ?_ ?_ | refine gpn ?_ ?_ | refine gps ?_ ?_) <;> intro h <;> (try simp only [dt, df, gi, gt] at h) <;> try simp -implicitDefEqProofs only [go_sem, *]) | ((with_reducible refine And.intro ?_ ?_); (· first | omega | (simp only [List.length_take]; omega)); try simp -implicitDefEqProofs only [go_sem, *]) | ((with_reducible refine enter_pu (cost_fn hl l hw) ?_ ?_ ?_); (· rfl); (· rfl); try simp -implicitDefEqProofs only [go_sem, *])))
  refine fin_pu ?_ rfl
  rw [show decide (((l.length + needTo l 3 : Nat) : Int) ≤ 150) = decide (l.length + needTo l 3 ≤ 150) by rw [decide_eq_decide]; omega]
end
section
theorem chain_len (l : List Rc) (n : Nat) : (chain l n).length ≤ n := by
  induction n using Nat.strongRecOn with
  | _ n ih =>
    rcases n with _ | n
    · rw [chain_zero]; simp
    · rw [chain]
      split
      · rename_i h
        have := ih _ h
        simp; omega
      · simp
theorem chain_fn (hl : LastC) (l : List Rc) (tx : Int) (hw : Wf l) : Fn1 Tryz.prog 45 [recs l, I tx] (ints ((chain l (lastN l tx)).map fun n : Nat => (n : Int))) := by
  have hlen := hw.len
  refine fn1_of Tryz.func45 rfl rfl ?_
  simp -implicitDefEqProofs only [go_sem, Tryz.f45]
  (repeat' (first | ((with_reducible first | refine gon ?_ ?_ | refine gos ?_ ?_ | refine cdn ?_ ?_ | refine cds ?_ ?_ | refine gpn ?_ ?_ | refine gps ?_ ?_) <;> intro h <;> (try simp only [dt, df, gi, gt] at h) <;> try simp -implicitDefEqProofs only [go_sem, *]) | ((with_reducible refine And.intro ?_ ?_); (· first | omega | (simp only [List.length_take]; omega)); try simp -implicitDefEqProofs only [go_sem, *]) | ((with_reducible refine enter_pu (hl l _ (by omega)) ?_ ?_ ?_); (· rfl); (· rfl); try simp -implicitDefEqProofs only [go_sem, *])))
  refine cp_loop (fun x : Nat × List Nat => ⟨(recs l :: I tx :: .any :: .any :: nilS :: .own 0 1 0 x.2.length :: I (x.1 : Int) :: .any :: .any :: .any :: .any :: .any :: .any :: .any :: .any :: .any :: .any :: .any :: .any :: .any :: .any :: .any :: .any :: []), [some ⟨1, (x.2.map fun n : Nat => (n : Int)).map I⟩], [0]⟩) (fun x => x.1 ≤ l.length ∧ x.2.length + x.1 ≤ l.length ∧ x.2 ++ chain l x.1 = chain l (lastN l tx)) (fun x => x.1) (lastN l tx, []) ?_ ?_ ?_
  · exact ⟨lastN_le l _, by simpa using lastN_le l _, rfl⟩
  · refine WkN.trans (wk_nil 5 1 (by omega) rfl) (WkN.trans (wk_tm ?_) (wk_mv (by simp))); simp only [List.set_cons_succ, List.set_cons_zero, List.length_nil, List.length_cons]; repeat (first | exact WL.nil | (with_reducible refine WL.any _ _ _ ?_) | (with_reducible refine WL.same _ _ _ ?_) | (refine WL.eq _ _ _ _ rfl ?_))
  · rintro ⟨x, c⟩ ⟨hx, hxc, hg⟩
    simp only at hx hxc hg
    rcases x with _ | b
    · rw [chain_zero, List.append_nil] at hg
      simp -implicitDefEqProofs only [go_sem, true_and]
      (repeat' (first | ((with_reducible first | refine gon ?_ ?_ | refine gos ?_ ?_ | refine cdn ?_ ?_ | refine cds ?_ ?_ | refine gpn ?_ ?_ | refine gps ?_ ?_) <;> intro h <;> (try simp only [dt, df, gi, gt] at h) <;> try simp -implicitDefEqProofs only [go_sem, *]) | ((with_reducible refine And.intro ?_ ?_); (· first | omega | (simp only [List.length_take]; omega)); try simp -implicitDefEqProofs only [go_sem, *]) | fail))
      rw [← hg]
      exact fin_1 (argT0 (arg0_I rfl (by simp)))
    · obtain ⟨m, hm, hp⟩ := hw.prev b (by omega)
      have hb3 : b < 4611686018427387904 := by omega
      rw [chain_succ hp hm] at hg
      simp -implicitDefEqProofs only [go_sem, hb3, hp]
      (repeat' (first | ((with_reducible first | refine gon ?_ ?_ | refine gos ?_ ?_ | refine cdn ?_ ?_ | refine cds ?_ ?_ | refine gpn ?_ ?_ | refine gps ?_ ?_) <;> intro h <;> (try simp only [dt, df, gi, gt] at h) <;> try simp -implicitDefEqProofs only [go_sem, *]) | ((with_reducible refine And.intro ?_ ?_); (· first | omega | (simp only [List.length_take]; omega)); try simp -implicitDefEqProofs only [go_sem, *]) | fail))
      have e : (List.map (fun n : Nat => (n : Int)) c ++ [((b + 1 : Nat) : Int)]) = List.map (fun n : Nat => (n : Int)) (c ++ [b + 1]) := by simp
      rw [e]
      refine ⟨(m, c ++ [b + 1]), ⟨by simp only; omega, by simp only [List.length_append, List.length_cons, List.length_nil]; omega, by simp only [List.append_assoc, List.cons_append, List.nil_append]; exact hg⟩, by simp only; omega, ?_⟩
      simp only [List.length_append, List.length_cons, List.length_nil]
      refine WkN.trans (WkN.trans (wk_tm ?_) (wk_trunc (S := [some ⟨1, _⟩]) (Nat.le_refl _) rfl (by first | rfl | (simp only [sltB, List.all_cons, List.all_nil, slt_p, slt_I, slt_r, Bool.and_true]; done) | (simp only [sltB, List.all_cons, List.all_nil, slt_p, slt_I, slt_r, Bool.and_true]; rfl)))) (wk_mv (by simp)); repeat (first | exact WL.nil | (with_reducible refine WL.any _ _ _ ?_) | (with_reducible refine WL.same _ _ _ ?_) | (refine WL.eq _ _ _ _ rfl ?_))
theorem Index_int (l : List Int) (v : Int) (hb : l.length < 4611686018427387904) : Fn1 Tryz.prog 157 [ints l, I v] (I (firstIdx (fun k => v == at' l k) 0 l.length)) := by
  refine fn1_of Tryz.func157 rfl rfl ?_
  simp -implicitDefEqProofs only [go_sem, Tryz.f157]
  refine cp_loop (fun i : Nat => ⟨(ints l :: I v :: .any :: .any :: I 0 :: .any :: .any :: I (l.length : Int) :: I (i : Int) :: .any :: .any :: .any :: .any :: .any :: .any :: .any :: .any :: .any :: .any :: []), [], []⟩) (fun i => i ≤ l.length ∧ firstIdx (fun k => v == at' l k) i l.length = firstIdx (fun k => v == at' l k) 0 l.length) (fun i => l.length - i) 0 ?_ ?_ ?_
  · simp
  · refine wk_tm ?_; repeat (first | exact WL.nil | (with_reducible refine WL.any _ _ _ ?_) | (with_reducible refine WL.same _ _ _ ?_) | (refine WL.eq _ _ _ _ rfl ?_))
  · rintro i ⟨hi, hgi⟩
    have hb : i < 4611686018427387904 := by omega
    simp -implicitDefEqProofs only [go_sem, true_and]
    (repeat' (first | ((with_reducible first | refine gon ?_ ?_ | refine gos ?_ ?_ | refine cdn ?_ ?_ | refine cds ?_ ?_ | refine gpn ?_ ?_ | refine gps ?_ ?_) <;> intro h <;> (try simp only [dt, df, gi, gt] at h) <;> try simp -implicitDefEqProofs only [go_sem, *]) | ((with_reducible refine And.intro ?_ ?_); (· first | omega | (simp only [List.length_take]; omega)); try simp -implicitDefEqProofs only [go_sem, *]) | fail))
    all_goals first | ((with_reducible refine ⟨i + 1, ⟨by omega, ?_⟩, by omega, ?_⟩); (· (rw [← hgi, firstIdx_lt (by omega : i < l.length)]; first | done | (clear hgi; (simp_all [true_and]) <;> (first | omega | (rw [Bool.eq_iff_iff]; simp; done) | (rw [Bool.eq_iff_iff]; simp; omega) | (split <;> (first | rfl | omega | (simp_all; done))))))); (· refine wk_tm ?_; repeat (first | exact WL.nil | (with_reducible refine WL.any _ _ _ ?_) | (with_reducible refine WL.same _ _ _ ?_) | (refine WL.eq _ _ _ _ rfl ?_)))) | ((with_reducible refine fin_pu ?_ ?_); (· (rw [← hgi, firstIdx_lt (by omega : i < l.length)]; first | done | (clear hgi; (simp_all [true_and]) <;> (first | omega | (rw [Bool.eq_iff_iff]; simp; done) | (rw [Bool.eq_iff_iff]; simp; omega) | (split <;> (first | rfl | omega | (simp_all; done))))))); (· rfl)) | ((with_reducible refine fin_pu ?_ ?_); (· (rw [← hgi, firstIdx_ge (by omega : ¬ i < l.length)]; first | done | (clear hgi; (simp_all [true_and]) <;> (first | omega | (rw [Bool.eq_iff_iff]; simp; done) | (rw [Bool.eq_iff_iff]; simp; omega) | (split <;> (first | rfl | omega | (simp_all; done))))))); (· rfl))
theorem Contains_int (l : List Int) (v : Int) (hb : l.length < 4611686018427387904) : Fn1 Tryz.prog 136 [ints l, I v] (Bo (anyFrom (fun k => v == at' l k) 0 l.length)) := by
  refine fn1_of Tryz.func136 rfl rfl ?_
  simp -implicitDefEqProofs only [go_sem, Tryz.f136]
  (repeat' (first | ((with_reducible first | refine gon ?_ ?_ | refine gos ?_ ?_ | refine cdn ?_ ?_ | refine cds ?_ ?_ | refine gpn ?_ ?_ | refine gps ?_ ?_) <;> intro h <;> (try simp only [dt, df, gi, gt] at h) <;> try simp -implicitDefEqProofs only [go_sem, *]) | ((with_reducible refine And.intro ?_ ?_); (· first | omega | (simp only [List.length_take]; omega)); try simp -implicitDefEqProofs only [go_sem, *]) | ((with_reducible refine enter_pu (Index_int l v hb) ?_ ?_ ?_); (· rfl); (· rfl); try simp -implicitDefEqProofs only [go_sem, *])))
  refine fin_pu ?_ rfl
  rw [← firstIdx_any]
def sameInts (a b : List Int) : Bool := decide (a.length = b.length) && allFrom (fun k => at' a (k : Int) == at' b (k : Int)) 0 a.length
theorem Equal_int (a b : List Int) (hb : a.length < 4611686018427387904) : Fn1 Tryz.prog 138 [ints a, ints b] (Bo (sameInts a b)) := by
  refine fn1_of Tryz.func138 rfl rfl ?_
  simp -implicitDefEqProofs only [go_sem, Tryz.f138]
  (repeat' (first | ((with_reducible first | refine gon ?_ ?_ | refine gos ?_ ?_ | refine cdn ?_ ?_ | refine cds ?_ ?_ | refine gpn ?_ ?_ | refine gps ?_ ?_) <;> intro h <;> (try simp only [dt, df, gi, gt] at h) <;> try simp -implicitDefEqProofs only [go_sem, *]) | ((with_reducible refine And.intro ?_ ?_); (· first | omega | (simp only [List.length_take]; omega)); try simp -implicitDefEqProofs only [go_sem, *]) | fail))
  all_goals try ((with_reducible refine fin_pu ?_ ?_); (· (simp_all [sameInts]) <;> (first | omega | (rw [Bool.eq_iff_iff]; simp; done) | (rw [Bool.eq_iff_iff]; simp; omega) | (split <;> (first | rfl | omega | (simp_all; done))))); (· rfl))
  · have hl : a.length = b.length := by have := h; simp at this; omega
    refine cp_loop (fun i : Nat => ⟨(ints a :: ints b :: .any :: .any :: Bo false :: .any :: .any :: .any :: .any :: .any :: .any :: .any :: I (a.length : Int) :: I (i : Int) :: .any :: .any :: .any :: .any :: .any :: .any :: .any :: .any :: .any :: .any :: .any :: .any :: []), [], []⟩) (fun i => i ≤ a.length ∧ allFrom (fun k => at' a (k : Int) == at' b (k : Int)) i a.length = sameInts a b) (fun i => a.length - i) 0 ?_ ?_ ?_
    · exact ⟨by omega, by simp [sameInts, hl]⟩
    · refine wk_tm ?_; repeat (first | exact WL.nil | (with_reducible refine WL.any _ _ _ ?_) | (with_reducible refine WL.same _ _ _ ?_) | (refine WL.eq _ _ _ _ rfl ?_))
    · rintro i ⟨hi, hg⟩
      have hbi : i < 4611686018427387904 := by omega
      simp -implicitDefEqProofs only [go_sem, true_and]
      (repeat' (first | ((with_reducible first | refine gon ?_ ?_ | refine gos ?_ ?_ | refine cdn ?_ ?_ | refine cds ?_ ?_ | refine gpn ?_ ?_ | refine gps ?_ ?_) <;> intro h <;> (try simp only [dt, df, gi, gt] at h) <;> try simp -implicitDefEqProofs only [go_sem, *]) | ((with_reducible refine And.intro ?_ ?_); (· first | omega | (simp only [List.length_take]; omega)); try simp -implicitDefEqProofs only [go_sem, *]) | ((with_reducible refine cp_draw (id := 6) 9 mixed ?_ ?_ ?_); (· decide +kernel); (· first | (simp only [List.all_cons, List.all_nil, List.length_cons, List.length_nil, Nat.reduceAdd, Nat.reduceLT, decide_true, Bool.and_true, Bool.and_self]; done) | rfl); try simp -implicitDefEqProofs only [go_sem, *])))
      all_goals first
        | ((with_reducible refine fin_pu ?_ ?_); (· (rw [← hg, allFrom_lt (by omega : i < a.length)]; clear hg; simp_all; done)); (· rfl))
        | ((with_reducible refine fin_pu ?_ ?_); (· (rw [← hg, allFrom_ge (by omega : ¬ i < a.length)]; done)); (· rfl))
        | ((with_reducible refine ⟨i + 1, ⟨by omega, ?_⟩, by omega, ?_⟩); (· (rw [← hg, allFrom_lt (by omega : i < a.length)]; clear hg; simp_all)); (· refine wk_tm ?_; repeat (first | exact WL.nil | (with_reducible refine WL.any _ _ _ ?_) | (with_reducible refine WL.same _ _ _ ?_) | (refine WL.eq _ _ _ _ rfl ?_))))
end
section
def sameP (p q : Pg) : Bool := (p.lsn == q.lsn) && (p.owner == q.owner) && sameInts p.vals q.vals
def sameR (a b : Rc) : Bool := (a.kind == b.kind) && (a.tx == b.tx) && (a.page == b.page) && (a.slot == b.slot) && (a.old == b.old) && (a.new == b.new) && (a.prev == b.prev) && (a.next == b.next)
theorem same_fn (p q : Pg) (hb : p.vals.length < 4611686018427387904) : Fn1 Tryz.prog 91 [pA p, pA q] (Bo (sameP p q)) := by
  refine fn1_of Tryz.func91 rfl rfl ?_
  simp -implicitDefEqProofs only [go_sem, Tryz.f91]
  (repeat' (first | ((with_reducible first | refine gon ?_ ?_ | refine gos ?_ ?_ | refine cdn ?_ ?_ | refine cds ?_ ?_ | refine gpn ?_ ?_ | refine gps ?_ ?_) <;> intro h <;> (try simp only [dt, df, gi, gt] at h) <;> try simp -implicitDefEqProofs only [go_sem, *]) | ((with_reducible refine And.intro ?_ ?_); (· first | omega | (simp only [List.length_take]; omega)); try simp -implicitDefEqProofs only [go_sem, *]) | ((with_reducible refine enter_pu (Equal_int p.vals q.vals hb) ?_ ?_ ?_); (· rfl); (· rfl); try simp -implicitDefEqProofs only [go_sem, *])))
  all_goals try ((with_reducible refine fin_pu ?_ ?_); (· (simp_all [sameP]) <;> (first | omega | (rw [Bool.eq_iff_iff]; simp; done) | (rw [Bool.eq_iff_iff]; simp; omega) | (split <;> (first | rfl | omega | (simp_all; done))))); (· rfl))
theorem eqIntS_fn (a b : List Int) (hb : a.length < 4611686018427387904) : Fn1 Tryz.prog 13 [ints a, ints b] (Bo (sameInts a b)) := by
  refine fn1_of Tryz.func13 rfl rfl ?_
  simp -implicitDefEqProofs only [go_sem, Tryz.f13]
  (repeat' (first | ((with_reducible first | refine gon ?_ ?_ | refine gos ?_ ?_ | refine cdn ?_ ?_ | refine cds ?_ ?_ | refine gpn ?_ ?_ | refine gps ?_ ?_) <;> intro h <;> (try simp only [dt, df, gi, gt] at h) <;> try simp -implicitDefEqProofs only [go_sem, *]) | ((with_reducible refine And.intro ?_ ?_); (· first | omega | (simp only [List.length_take]; omega)); try simp -implicitDefEqProofs only [go_sem, *]) | fail))
  all_goals try ((with_reducible refine fin_pu ?_ ?_); (· (simp_all [sameInts]) <;> (first | omega | (rw [Bool.eq_iff_iff]; simp; done) | (rw [Bool.eq_iff_iff]; simp; omega) | (split <;> (first | rfl | omega | (simp_all; done))))); (· rfl))
  · have hl : a.length = b.length := by have := h; simp at this; omega
    refine cp_loop (fun i : Nat => ⟨(ints a :: ints b :: .any :: .any :: Bo false :: I (i : Int) :: .any :: .any :: .any :: .any :: .any :: .any :: .any :: .any :: .any :: .any :: .any :: .any :: .any :: .any :: .any :: .any :: .any :: .any :: .any :: .any :: []), [], []⟩) (fun i => i ≤ a.length ∧ allFrom (fun k => at' a (k : Int) == at' b (k : Int)) i a.length = sameInts a b) (fun i => a.length - i) 0 ?_ ?_ ?_
    · exact ⟨by omega, by simp [sameInts, hl]⟩
    · refine wk_tm ?_; repeat (first | exact WL.nil | (with_reducible refine WL.any _ _ _ ?_) | (with_reducible refine WL.same _ _ _ ?_) | (refine WL.eq _ _ _ _ rfl ?_))
    · rintro i ⟨hi, hg⟩
      have hbi : i < 4611686018427387904 := by omega
      simp -implicitDefEqProofs only [go_sem, true_and]
      (repeat' (first | ((with_reducible first | refine gon ?_ ?_ | refine gos ?_ ?_ | refine cdn ?_ ?_ | refine cds ?_ ?_ | refine gpn ?_ ?_ | refine gps ?_ ?_) <;> intro h <;> (try simp only [dt, df, gi, gt] at h) <;> try simp -implicitDefEqProofs only [go_sem, *]) | ((with_reducible refine And.intro ?_ ?_); (· first | omega | (simp only [List.length_take]; omega)); try simp -implicitDefEqProofs only [go_sem, *]) | ((with_reducible refine cp_draw (id := 6) 9 mixed ?_ ?_ ?_); (· decide +kernel); (· first | (simp only [List.all_cons, List.all_nil, List.length_cons, List.length_nil, Nat.reduceAdd, Nat.reduceLT, decide_true, Bool.and_true, Bool.and_self]; done) | rfl); try simp -implicitDefEqProofs only [go_sem, *])))
      all_goals first
        | ((with_reducible refine fin_pu ?_ ?_); (· (rw [← hg, allFrom_lt (by omega : i < a.length)]; clear hg; simp_all; done)); (· rfl))
        | ((with_reducible refine fin_pu ?_ ?_); (· (rw [← hg, allFrom_ge (by omega : ¬ i < a.length)]; done)); (· rfl))
        | ((with_reducible refine ⟨i + 1, ⟨by omega, ?_⟩, by omega, ?_⟩); (· (rw [← hg, allFrom_lt (by omega : i < a.length)]; clear hg; simp_all)); (· refine wk_tm ?_; repeat (first | exact WL.nil | (with_reducible refine WL.any _ _ _ ?_) | (with_reducible refine WL.same _ _ _ ?_) | (refine WL.eq _ _ _ _ rfl ?_))))
theorem eqPage_fn (p q : Pg) (hb : p.vals.length < 4611686018427387904) : Fn1 Tryz.prog 104 [pA p, pA q] (Bo (sameP p q)) := by
  refine fn1_of Tryz.func104 rfl rfl ?_
  simp -implicitDefEqProofs only [go_sem, Tryz.f104]
  (repeat' (first | ((with_reducible first | refine gon ?_ ?_ | refine gos ?_ ?_ | refine cdn ?_ ?_ | refine cds ?_ ?_ | refine gpn ?_ ?_ | refine gps ?_ ?_) <;> intro h <;> (try simp only [dt, df, gi, gt] at h) <;> try simp -implicitDefEqProofs only [go_sem, *]) | ((with_reducible refine And.intro ?_ ?_); (· first | omega | (simp only [List.length_take]; omega)); try simp -implicitDefEqProofs only [go_sem, *]) | ((with_reducible refine enter_pu (eqIntS_fn p.vals q.vals hb) ?_ ?_ ?_); (· rfl); (· rfl); try simp -implicitDefEqProofs only [go_sem, *])))
  all_goals try ((with_reducible refine fin_pu ?_ ?_); (· (simp_all [sameP]) <;> (first | omega | (rw [Bool.eq_iff_iff]; simp; done) | (rw [Bool.eq_iff_iff]; simp; omega) | (split <;> (first | rfl | omega | (simp_all; done))))); (· rfl))
theorem eqRec_fn (a b : Rc) : Fn1 Tryz.prog 105 [rA a, rA b] (Bo (sameR a b)) := by
  refine fn1_of Tryz.func105 rfl rfl ?_
  simp -implicitDefEqProofs only [go_sem, Tryz.f105]
  (repeat' (first | ((with_reducible first | refine gon ?_ ?_ | refine gos ?_ ?_ | refine cdn ?_ ?_ | refine cds ?_ ?_ | refine gpn ?_ ?_ | refine gps ?_ ?_) <;> intro h <;> (try simp only [dt, df, gi, gt] at h) <;> try simp -implicitDefEqProofs only [go_sem, *]) | ((with_reducible refine And.intro ?_ ?_); (· first | omega | (simp only [List.length_take]; omega)); try simp -implicitDefEqProofs only [go_sem, *]) | fail))
  all_goals try ((with_reducible refine fin_pu ?_ ?_); (· (simp_all [sameR]) <;> (first | omega | (rw [Bool.eq_iff_iff]; simp; done) | (rw [Bool.eq_iff_iff]; simp; omega) | (split <;> (first | rfl | omega | (simp_all; done))))); (· rfl))
def samePs (a b : List Pg) : Bool := decide (a.length = b.length) && allFrom (fun k => sameP (at' a (k : Int)) (at' b (k : Int))) 0 a.length
def sameRs (a b : List Rc) : Bool := decide (a.length = b.length) && allFrom (fun k => sameR (at' a (k : Int)) (at' b (k : Int))) 0 a.length
def sameE (a b : Eng) : Bool := samePs a.disk b.disk && samePs a.mem b.mem && sameRs a.log b.log && (a.safe == b.safe) && (a.down == b.down)
theorem eqPageS_fn (a b : List Pg) (hb : a.length < 4611686018427387904) (hv : ∀ p ∈ a, p.vals.length < 4611686018427387904) : Fn1 Tryz.prog 50 [pgs a, pgs b] (Bo (samePs a b)) := by
  refine fn1_of Tryz.func50 rfl rfl ?_
  simp -implicitDefEqProofs only [go_sem, Tryz.f50]
  (repeat' (first | ((with_reducible first | refine gon ?_ ?_ | refine gos ?_ ?_ | refine cdn ?_ ?_ | refine cds ?_ ?_ | refine gpn ?_ ?_ | refine gps ?_ ?_) <;> intro h <;> (try simp only [dt, df, gi, gt] at h) <;> try simp -implicitDefEqProofs only [go_sem, *]) | ((with_reducible refine And.intro ?_ ?_); (· first | omega | (simp only [List.length_take]; omega)); try simp -implicitDefEqProofs only [go_sem, *]) | fail))
  all_goals try ((with_reducible refine fin_pu ?_ ?_); (· (simp_all [samePs]) <;> (first | omega | (rw [Bool.eq_iff_iff]; simp; done) | (rw [Bool.eq_iff_iff]; simp; omega) | (split <;> (first | rfl | omega | (simp_all; done))))); (· rfl))
  · have hl : a.length = b.length := by have := h; simp at this; omega
    refine cp_loop (fun i : Nat => ⟨(pgs a :: pgs b :: .any :: .any :: Bo false :: I (i : Int) :: .any :: .any :: .any :: .any :: .any :: .any :: .any :: .any :: .any :: .any :: .any :: .any :: .any :: .any :: .any :: .any :: .any :: .any :: .any :: .any :: .any :: []), [], []⟩) (fun i => i ≤ a.length ∧ allFrom (fun k => sameP (at' a (k : Int)) (at' b (k : Int))) i a.length = samePs a b) (fun i => a.length - i) 0 ?_ ?_ ?_
    · exact ⟨by omega, by simp [samePs, hl]⟩
    · refine wk_tm ?_; repeat (first | exact WL.nil | (with_reducible refine WL.any _ _ _ ?_) | (with_reducible refine WL.same _ _ _ ?_) | (refine WL.eq _ _ _ _ rfl ?_))
    · rintro i ⟨hi, hg⟩
      have hbi : i < 4611686018427387904 := by omega
      simp -implicitDefEqProofs only [go_sem, true_and]
      (repeat' (first | ((with_reducible first | refine gon ?_ ?_ | refine gos ?_ ?_ | refine cdn ?_ ?_ | refine cds ?_ ?_ | refine gpn ?_ ?_ | refine gps ?_ ?_) <;> intro h <;> (try simp only [dt, df, gi, gt] at h) <;> try simp -implicitDefEqProofs only [go_sem, *]) | ((with_reducible refine And.intro ?_ ?_); (· first | omega | (simp only [List.length_take]; omega)); try simp -implicitDefEqProofs only [go_sem, *]) | first | ((with_reducible refine cp_draw (id := 6) 10 mixed ?_ ?_ ?_); (· decide +kernel); (· first | (simp only [List.all_cons, List.all_nil, List.length_cons, List.length_nil, Nat.reduceAdd, Nat.reduceLT, decide_true, Bool.and_true, Bool.and_self]; done) | rfl); try simp -implicitDefEqProofs only [go_sem, *]) | ((with_reducible refine pre_enter _ (det_pu (eqPage_fn (at' a (i : Int)) (at' b (i : Int)) (hv _ (at_mem a i (by omega)))) ?_ ?_) ?_ ?_); (· rfl); (· rfl); (· rfl); try simp -implicitDefEqProofs only [go_sem, *])))
      all_goals first
        | ((with_reducible refine fin_pu ?_ ?_); (· (rw [← hg, allFrom_lt (by omega : i < a.length)]; clear hg; simp_all; done)); (· rfl))
        | ((with_reducible refine fin_pu ?_ ?_); (· (rw [← hg, allFrom_ge (by omega : ¬ i < a.length)]; done)); (· rfl))
        | ((with_reducible refine ⟨i + 1, ⟨by omega, ?_⟩, by omega, ?_⟩); (· (rw [← hg, allFrom_lt (by omega : i < a.length)]; clear hg; simp_all)); (· refine wk_tm ?_; repeat (first | exact WL.nil | (with_reducible refine WL.any _ _ _ ?_) | (with_reducible refine WL.same _ _ _ ?_) | (refine WL.eq _ _ _ _ rfl ?_))))
theorem eqRecS_fn (a b : List Rc) (hb : a.length < 4611686018427387904) : Fn1 Tryz.prog 51 [recs a, recs b] (Bo (sameRs a b)) := by
  refine fn1_of Tryz.func51 rfl rfl ?_
  simp -implicitDefEqProofs only [go_sem, Tryz.f51]
  (repeat' (first | ((with_reducible first | refine gon ?_ ?_ | refine gos ?_ ?_ | refine cdn ?_ ?_ | refine cds ?_ ?_ | refine gpn ?_ ?_ | refine gps ?_ ?_) <;> intro h <;> (try simp only [dt, df, gi, gt] at h) <;> try simp -implicitDefEqProofs only [go_sem, *]) | ((with_reducible refine And.intro ?_ ?_); (· first | omega | (simp only [List.length_take]; omega)); try simp -implicitDefEqProofs only [go_sem, *]) | fail))
  all_goals try ((with_reducible refine fin_pu ?_ ?_); (· (simp_all [sameRs]) <;> (first | omega | (rw [Bool.eq_iff_iff]; simp; done) | (rw [Bool.eq_iff_iff]; simp; omega) | (split <;> (first | rfl | omega | (simp_all; done))))); (· rfl))
  · have hl : a.length = b.length := by have := h; simp at this; omega
    refine cp_loop (fun i : Nat => ⟨(recs a :: recs b :: .any :: .any :: Bo false :: I (i : Int) :: .any :: .any :: .any :: .any :: .any :: .any :: .any :: .any :: .any :: .any :: .any :: .any :: .any :: .any :: .any :: .any :: .any :: .any :: .any :: .any :: .any :: []), [], []⟩) (fun i => i ≤ a.length ∧ allFrom (fun k => sameR (at' a (k : Int)) (at' b (k : Int))) i a.length = sameRs a b) (fun i => a.length - i) 0 ?_ ?_ ?_
    · exact ⟨by omega, by simp [sameRs, hl]⟩
    · refine wk_tm ?_; repeat (first | exact WL.nil | (with_reducible refine WL.any _ _ _ ?_) | (with_reducible refine WL.same _ _ _ ?_) | (refine WL.eq _ _ _ _ rfl ?_))
    · rintro i ⟨hi, hg⟩
      have hbi : i < 4611686018427387904 := by omega
      simp -implicitDefEqProofs only [go_sem, true_and]
      (repeat' (first | ((with_reducible first | refine gon ?_ ?_ | refine gos ?_ ?_ | refine cdn ?_ ?_ | refine cds ?_ ?_ | refine gpn ?_ ?_ | refine gps ?_ ?_) <;> intro h <;> (try simp only [dt, df, gi, gt] at h) <;> try simp -implicitDefEqProofs only [go_sem, *]) | ((with_reducible refine And.intro ?_ ?_); (· first | omega | (simp only [List.length_take]; omega)); try simp -implicitDefEqProofs only [go_sem, *]) | first | ((with_reducible refine cp_draw (id := 6) 10 mixed ?_ ?_ ?_); (· decide +kernel); (· first | (simp only [List.all_cons, List.all_nil, List.length_cons, List.length_nil, Nat.reduceAdd, Nat.reduceLT, decide_true, Bool.and_true, Bool.and_self]; done) | rfl); try simp -implicitDefEqProofs only [go_sem, *]) | ((with_reducible refine pre_enter _ (det_pu (eqRec_fn (at' a (i : Int)) (at' b (i : Int))) ?_ ?_) ?_ ?_); (· rfl); (· rfl); (· rfl); try simp -implicitDefEqProofs only [go_sem, *])))
      all_goals first
        | ((with_reducible refine fin_pu ?_ ?_); (· (rw [← hg, allFrom_lt (by omega : i < a.length)]; clear hg; simp_all; done)); (· rfl))
        | ((with_reducible refine fin_pu ?_ ?_); (· (rw [← hg, allFrom_ge (by omega : ¬ i < a.length)]; done)); (· rfl))
        | ((with_reducible refine ⟨i + 1, ⟨by omega, ?_⟩, by omega, ?_⟩); (· (rw [← hg, allFrom_lt (by omega : i < a.length)]; clear hg; simp_all)); (· refine wk_tm ?_; repeat (first | exact WL.nil | (with_reducible refine WL.any _ _ _ ?_) | (with_reducible refine WL.same _ _ _ ?_) | (refine WL.eq _ _ _ _ rfl ?_))))
structure Eng.small (e : Eng) : Prop where
  disk : e.disk.length < 4611686018427387904
  mem : e.mem.length < 4611686018427387904
  log : e.log.length < 4611686018427387904
  dv : ∀ p ∈ e.disk, p.vals.length < 4611686018427387904
  mv : ∀ p ∈ e.mem, p.vals.length < 4611686018427387904
theorem eqEngine_fn (a b : Eng) (ha : a.small) : Fn1 Tryz.prog 12 [eA a, eA b] (Bo (sameE a b)) := by
  refine fn1_of Tryz.func12 rfl rfl ?_
  simp -implicitDefEqProofs only [go_sem, Tryz.f12]
  (repeat' (first | ((with_reducible first | refine gon ?_ ?_ | refine gos ?_ ?_ | refine cdn ?_ ?_ | refine cds ?_ ?_ | refine gpn ?_ ?_ | refine gps ?_ ?_) <;> intro h <;> (try simp only [dt, df, gi, gt] at h) <;> try simp -implicitDefEqProofs only [go_sem, *]) | ((with_reducible refine And.intro ?_ ?_); (· first | omega | (simp only [List.length_take]; omega)); try simp -implicitDefEqProofs only [go_sem, *]) | first | ((with_reducible refine enter_pu (eqPageS_fn a.disk b.disk ha.disk ha.dv) ?_ ?_ ?_); (· rfl); (· rfl); try simp -implicitDefEqProofs only [go_sem, *]) | ((with_reducible refine enter_pu (eqPageS_fn a.mem b.mem ha.mem ha.mv) ?_ ?_ ?_); (· rfl); (· rfl); try simp -implicitDefEqProofs only [go_sem, *]) | ((with_reducible refine enter_pu (eqRecS_fn a.log b.log ha.log) ?_ ?_ ?_); (· rfl); (· rfl); try simp -implicitDefEqProofs only [go_sem, *])))
  all_goals try ((with_reducible refine fin_pu ?_ ?_); (· (simp_all [sameE]) <;> (first | omega | (rw [Bool.eq_iff_iff]; simp; done) | (rw [Bool.eq_iff_iff]; simp; omega) | (split <;> (first | rfl | omega | (simp_all; done))))); (· rfl))
end
section
def subI (a n : Nat) : Int := if a < n then -1 else ((a - n : Nat) : Int)
theorem subI_neg {a n : Nat} (h : subI a n < 0) : subI a n = -1 := by
  unfold subI at *
  split at h <;> rename_i h'
  · rw [if_pos h']
  · omega
theorem subI_of {a n : Nat} (h : (a : Int) - (n : Int) < 0) : subI a n = -1 := by
  unfold subI; rw [if_pos (by omega)]
theorem subI_of' {a n : Nat} (h : ¬ (a : Int) - (n : Int) < 0) : subI a n = (a : Int) - (n : Int) := by
  unfold subI; rw [if_neg (by omega)]; omega
theorem szIntS_fn (l : List Int) (a : Nat) (ha : a ≤ 2000000) (hb : l.length < 4611686018427387904) : Fn1 Tryz.prog 141 [ints l, I a] (I (subI a l.length)) := by
  have hw : IntKind.i64.wrap ((a : Int) - (l.length : Int)) = (a : Int) - (l.length : Int) := wrap_ok (by omega) (by omega)
  refine fn1_of Tryz.func141 rfl rfl ?_
  simp -implicitDefEqProofs only [go_sem, Tryz.f141, hw]
  (repeat' (first | ((with_reducible first | refine gon ?_ ?_ | refine gos ?_ ?_ | refine cdn ?_ ?_ | refine cds ?_ ?_ | refine gpn ?_ ?_ | refine gps ?_ ?_) <;> intro h <;> (try simp only [dt, df, gi, gt] at h) <;> try simp -implicitDefEqProofs only [go_sem, *]) | ((with_reducible refine And.intro ?_ ?_); (· first | omega | (simp only [List.length_take]; omega)); try simp -implicitDefEqProofs only [go_sem, *]) | fail))
  · exact fin_pu (by rw [subI_of h]) rfl
  · exact fin_pu (by rw [subI_of' h]) rfl
theorem szRecS_fn (l : List Rc) (a : Nat) (ha : a ≤ 2000000) (hb : l.length < 4611686018427387904) : Fn1 Tryz.prog 35 [recs l, I a] (I (subI a l.length)) := by
  have hw : IntKind.i64.wrap ((a : Int) - (l.length : Int)) = (a : Int) - (l.length : Int) := wrap_ok (by omega) (by omega)
  refine fn1_of Tryz.func35 rfl rfl ?_
  simp -implicitDefEqProofs only [go_sem, Tryz.f35, hw]
  (repeat' (first | ((with_reducible first | refine gon ?_ ?_ | refine gos ?_ ?_ | refine cdn ?_ ?_ | refine cds ?_ ?_ | refine gpn ?_ ?_ | refine gps ?_ ?_) <;> intro h <;> (try simp only [dt, df, gi, gt] at h) <;> try simp -implicitDefEqProofs only [go_sem, *]) | ((with_reducible refine And.intro ?_ ?_); (· first | omega | (simp only [List.length_take]; omega)); try simp -implicitDefEqProofs only [go_sem, *]) | fail))
  · exact fin_pu (by rw [subI_of h]) rfl
  · exact fin_pu (by rw [subI_of' h]) rfl
theorem szPage_fn (p : Pg) (a : Nat) (ha : a ≤ 2000000) (hb : p.vals.length < 4611686018427387904) : Fn1 Tryz.prog 93 [pA p, I a] (I (subI a p.vals.length)) := by
  refine fn1_of Tryz.func93 rfl rfl ?_
  simp -implicitDefEqProofs only [go_sem, Tryz.f93]
  (repeat' (first | ((with_reducible first | refine gon ?_ ?_ | refine gos ?_ ?_ | refine cdn ?_ ?_ | refine cds ?_ ?_ | refine gpn ?_ ?_ | refine gps ?_ ?_) <;> intro h <;> (try simp only [dt, df, gi, gt] at h) <;> try simp -implicitDefEqProofs only [go_sem, *]) | ((with_reducible refine And.intro ?_ ?_); (· first | omega | (simp only [List.length_take]; omega)); try simp -implicitDefEqProofs only [go_sem, *]) | ((with_reducible refine enter_pu (szIntS_fn p.vals a ha hb) ?_ ?_ ?_); (· rfl); (· rfl); try simp -implicitDefEqProofs only [go_sem, *])))
  · exact fin_pu (by rw [subI_neg h]) rfl
  · exact fin_pu rfl rfl
/-- What is left of a, when the slots of the pages from i on are taken off; -1, if that is not enough. -/
def szRest (ps : List Pg) (i : Nat) (a : Nat) : Int :=
  if h : i < ps.length then (if a < (at' ps (i : Int)).vals.length then -1 else szRest ps (i + 1) (a - (at' ps (i : Int)).vals.length)) else a
termination_by ps.length - i
theorem szRest_lt {ps : List Pg} {i a : Nat} (h : i < ps.length) : szRest ps i a = if a < (at' ps (i : Int)).vals.length then -1 else szRest ps (i + 1) (a - (at' ps (i : Int)).vals.length) := by rw [szRest]; simp [h]
theorem szRest_ge {ps : List Pg} {i a : Nat} (h : ¬ i < ps.length) : szRest ps i a = a := by rw [szRest]; simp [h]
def szPs (ps : List Pg) (a : Nat) : Int := if a < ps.length then -1 else szRest ps 0 (a - ps.length)
theorem szPageS_fn (ps : List Pg) (a : Nat) (ha : a ≤ 2000000) (hb : ps.length < 4611686018427387904) (hv : ∀ p ∈ ps, p.vals.length < 4611686018427387904) : Fn1 Tryz.prog 34 [pgs ps, I a] (I (szPs ps a)) := by
  have hw : IntKind.i64.wrap ((a : Int) - (ps.length : Int)) = (a : Int) - (ps.length : Int) := wrap_ok (by omega) (by omega)
  refine fn1_of Tryz.func34 rfl rfl ?_
  simp -implicitDefEqProofs only [go_sem, Tryz.f34, hw]
  (repeat' (first | ((with_reducible first | refine gon ?_ ?_ | refine gos ?_ ?_ | refine cdn ?_ ?_ | refine cds ?_ ?_ | refine gpn ?_ ?_ | refine gps ?_ ?_) <;> intro h <;> (try simp only [dt, df, gi, gt] at h) <;> try simp -implicitDefEqProofs only [go_sem, *]) | ((with_reducible refine And.intro ?_ ?_); (· first | omega | (simp only [List.length_take]; omega)); try simp -implicitDefEqProofs only [go_sem, *]) | fail))
  · exact fin_pu (by rw [szPs, if_pos (by omega)]) rfl
  · refine cp_loop (fun x : Nat × Nat => ⟨(pgs ps :: I (x.2 : Int) :: .any :: .any :: I 0 :: I (x.1 : Int) :: .any :: .any :: .any :: .any :: .any :: .any :: .any :: .any :: .any :: .any :: .any :: .any :: .any :: .any :: .any :: .any :: .any :: .any :: .any :: .any :: .any :: []), [], []⟩) (fun x => x.1 ≤ ps.length ∧ x.2 ≤ 2000000 ∧ szRest ps x.1 x.2 = szPs ps a) (fun x => ps.length - x.1) (0, a - ps.length) ?_ ?_ ?_
    · exact ⟨by simp, by simp only; omega, by rw [szPs, if_neg (by omega)]⟩
    · rw [show (a : Int) - (ps.length : Int) = ((a - ps.length : Nat) : Int) by omega]
      refine wk_tm ?_; repeat (first | exact WL.nil | (with_reducible refine WL.any _ _ _ ?_) | (with_reducible refine WL.same _ _ _ ?_) | (refine WL.eq _ _ _ _ rfl ?_))
    · rintro ⟨i, c⟩ ⟨hi, hc, hg⟩
      simp only at hi hc hg
      have hbi : i < 4611686018427387904 := by omega
      simp -implicitDefEqProofs only [go_sem, true_and]
      (repeat' (first | ((with_reducible first | refine gon ?_ ?_ | refine gos ?_ ?_ | refine cdn ?_ ?_ | refine cds ?_ ?_ | refine gpn ?_ ?_ | refine gps ?_ ?_) <;> intro h <;> (try simp only [dt, df, gi, gt] at h) <;> try simp -implicitDefEqProofs only [go_sem, *]) | ((with_reducible refine And.intro ?_ ?_); (· first | omega | (simp only [List.length_take]; omega)); try simp -implicitDefEqProofs only [go_sem, *]) | ((with_reducible refine enter_pu (szPage_fn (at' ps (i : Int)) c hc (hv _ (at_mem ps i (by omega)))) ?_ ?_ ?_); (· rfl); (· rfl); try simp -implicitDefEqProofs only [go_sem, *])))
      · refine fin_pu ?_ rfl
        have : c < (at' ps (i : Int)).vals.length := by
          unfold subI at h
          split at h
          · assumption
          · omega
        rw [← hg, szRest_lt (by omega : i < ps.length), if_pos this]
      · have : ¬ c < (at' ps (i : Int)).vals.length := by
          unfold subI at h
          split at h
          · omega
          · assumption
        rw [szRest_lt (by omega : i < ps.length), if_neg this] at hg
        refine ⟨(i + 1, c - (at' ps (i : Int)).vals.length), ⟨by simp only; omega, by simp only; omega, hg⟩, by simp only; omega, ?_⟩
        rw [show subI c (at' ps (i : Int)).vals.length = ((c - (at' ps (i : Int)).vals.length : Nat) : Int) from if_neg this]
        refine wk_tm ?_; repeat (first | exact WL.nil | (with_reducible refine WL.any _ _ _ ?_) | (with_reducible refine WL.same _ _ _ ?_) | (refine WL.eq _ _ _ _ rfl ?_))
      · refine fin_pu ?_ rfl
        rw [← hg, szRest_ge (by omega : ¬ i < ps.length)]
def szE (e : Eng) (a : Nat) : Int :=
  if szPs e.disk a < 0 then -1 else if szPs e.mem (szPs e.disk a).toNat < 0 then -1 else subI (szPs e.mem (szPs e.disk a).toNat).toNat e.log.length
theorem szRest_le (ps : List Pg) (i a : Nat) : szRest ps i a ≤ a := by
  induction hm : ps.length - i generalizing i a with
  | zero => rw [szRest_ge (by omega)]; omega
  | succ m ih =>
    rw [szRest_lt (by omega)]
    split
    · omega
    · have := ih (i + 1) (a - (at' ps (i : Int)).vals.length) (by omega)
      omega
theorem szPs_le (ps : List Pg) (a : Nat) : szPs ps a ≤ a := by
  unfold szPs
  split
  · omega
  · have := szRest_le ps 0 (a - ps.length)
    omega
theorem szEngine_fn (e : Eng) (a : Nat) (ha : a ≤ 2000000) (hs : e.small) : Fn1 Tryz.prog 7 [eA e, I a] (I (szE e a)) := by
  have h1 := szPs_le e.disk a
  refine fn1_of Tryz.func7 rfl rfl ?_
  simp -implicitDefEqProofs only [go_sem, Tryz.f7]
  (repeat' (first | ((with_reducible first | refine gon ?_ ?_ | refine gos ?_ ?_ | refine cdn ?_ ?_ | refine cds ?_ ?_ | refine gpn ?_ ?_ | refine gps ?_ ?_) <;> intro h <;> (try simp only [dt, df, gi, gt] at h) <;> try simp -implicitDefEqProofs only [go_sem, *]) | ((with_reducible refine And.intro ?_ ?_); (· first | omega | (simp only [List.length_take]; omega)); try simp -implicitDefEqProofs only [go_sem, *]) | ((with_reducible refine enter_pu (szPageS_fn e.disk a ha hs.disk hs.dv) ?_ ?_ ?_); (· rfl); (· rfl); try simp -implicitDefEqProofs only [go_sem, *])))
  · exact fin_pu (by rw [szE, if_pos h]) rfl
  · obtain ⟨b, hb⟩ : ∃ b : Nat, szPs e.disk a = (b : Int) := ⟨(szPs e.disk a).toNat, by omega⟩
    have h2 := szPs_le e.mem b
    rw [hb]
    (repeat' (first | ((with_reducible first | refine gon ?_ ?_ | refine gos ?_ ?_ | refine cdn ?_ ?_ | refine cds ?_ ?_ | refine gpn ?_ ?_ | refine gps ?_ ?_) <;> intro h <;> (try simp only [dt, df, gi, gt] at h) <;> try simp -implicitDefEqProofs only [go_sem, *]) | ((with_reducible refine And.intro ?_ ?_); (· first | omega | (simp only [List.length_take]; omega)); try simp -implicitDefEqProofs only [go_sem, *]) | ((with_reducible refine enter_pu (szPageS_fn e.mem b (by omega) hs.mem hs.mv) ?_ ?_ ?_); (· rfl); (· rfl); try simp -implicitDefEqProofs only [go_sem, *])))
    · exact fin_pu (by rw [szE, hb, if_neg (by omega), Int.toNat_natCast, if_pos h]) rfl
    · obtain ⟨c, hc⟩ : ∃ c : Nat, szPs e.mem b = (c : Int) := ⟨(szPs e.mem b).toNat, by omega⟩
      have ez : szE e a = subI c e.log.length := by rw [szE, hb, if_neg (by omega), Int.toNat_natCast, hc, if_neg (by omega), Int.toNat_natCast]
      rw [hc]
      (repeat' (first | ((with_reducible first | refine gon ?_ ?_ | refine gos ?_ ?_ | refine cdn ?_ ?_ | refine cds ?_ ?_ | refine gpn ?_ ?_ | refine gps ?_ ?_) <;> intro h <;> (try simp only [dt, df, gi, gt] at h) <;> try simp -implicitDefEqProofs only [go_sem, *]) | ((with_reducible refine And.intro ?_ ?_); (· first | omega | (simp only [List.length_take]; omega)); try simp -implicitDefEqProofs only [go_sem, *]) | ((with_reducible refine enter_pu (szRecS_fn e.log c (by omega) hs.log) ?_ ?_ ?_); (· rfl); (· rfl); try simp -implicitDefEqProofs only [go_sem, *])))
      · exact fin_pu (by rw [subI_neg h]) rfl
      · exact fin_pu rfl rfl
end
section
@[go_sem] theorem rep_I {n : Nat} : List.replicate n (AV.prim (.int .i64 0)) = (List.replicate n (0 : Int)).map I := by simp
theorem fill_set {α : Type} [Inhabited α] (l : List α) (z : α) (i : Nat) (h : i < l.length) : (l.take i ++ List.replicate (l.length - i) z).set i (at' l (i : Int)) = l.take (i + 1) ++ List.replicate (l.length - (i + 1)) z := by
  rw [← take_at l i h, List.append_assoc, List.set_append_right _ _ (by simp; omega), List.length_take, Nat.min_eq_left (by omega), Nat.sub_self, show l.length - i = (l.length - (i + 1)) + 1 by omega, List.replicate_succ]
  rfl
theorem toIntS_fn (l : List Int) (hb : l.length ≤ 2000000) : Fn1 Tryz.prog 10 [ints l] (ints l) := by
  refine fn1_of Tryz.func10 rfl rfl ?_
  simp -implicitDefEqProofs only [go_sem, Tryz.f10]
  (repeat' (first | ((with_reducible first | refine gon ?_ ?_ | refine gos ?_ ?_ | refine cdn ?_ ?_ | refine cds ?_ ?_ | refine gpn ?_ ?_ | refine gps ?_ ?_) <;> intro h <;> (try simp only [dt, df, gi, gt] at h) <;> try simp -implicitDefEqProofs only [go_sem, *]) | ((with_reducible refine And.intro ?_ ?_); (· first | omega | (simp only [List.length_take]; omega)); try simp -implicitDefEqProofs only [go_sem, *]) | fail))
  refine cp_loop (fun i : Nat => ⟨(ints l :: .any :: nilS :: .own 0 1 0 l.length :: I (i : Int) :: .any :: .any :: .any :: .any :: .any :: .any :: .any :: .any :: .any :: .any :: .any :: .any :: .any :: .any :: .any :: .any :: .any :: []), [some ⟨1, (l.take i ++ List.replicate (l.length - i) 0).map I⟩], []⟩) (fun i => i ≤ l.length) (fun i => l.length - i) 0 ?_ ?_ ?_
  · simp
  · refine wk_tm ?_; repeat (first | exact WL.nil | (with_reducible refine WL.any _ _ _ ?_) | (with_reducible refine WL.same _ _ _ ?_) | (refine WL.eq _ _ _ _ rfl ?_))
  · rintro i hi
    have hbi : i < 4611686018427387904 := by omega
    have hfl : (l.take i ++ List.replicate (l.length - i) (0 : Int)).length = l.length := by simp; omega
    simp -implicitDefEqProofs only [go_sem, true_and]
    (repeat' (first | ((with_reducible first | refine gon ?_ ?_ | refine gos ?_ ?_ | refine cdn ?_ ?_ | refine cds ?_ ?_ | refine gpn ?_ ?_ | refine gps ?_ ?_) <;> intro h <;> (try simp only [dt, df, gi, gt] at h) <;> try simp -implicitDefEqProofs only [go_sem, *]) | ((with_reducible refine And.intro ?_ ?_); (· first | omega | (simp only [List.length_take]; omega)); try simp -implicitDefEqProofs only [go_sem, *]) | fail))
    · rw [fill_set l 0 i (by omega)]
      refine ⟨i + 1, by omega, by omega, ?_⟩
      refine wk_tm ?_; repeat (first | exact WL.nil | (with_reducible refine WL.any _ _ _ ?_) | (with_reducible refine WL.same _ _ _ ?_) | (refine WL.eq _ _ _ _ rfl ?_))
    · have e : i = l.length := by omega
      have e2 : List.take i l ++ List.replicate (l.length - i) (0 : Int) = l := by rw [e]; simp
      rw [e2]
      exact fin_1 (argT0 (arg0_I rfl rfl))
theorem toPage_fn (p : Pg) (hb : p.vals.length ≤ 2000000) : Fn1 Tryz.prog 97 [pA p] (pA p) := by
  refine fn1_of Tryz.func97 rfl rfl ?_
  simp -implicitDefEqProofs only [go_sem, Tryz.f97]
  (repeat' (first | ((with_reducible first | refine gon ?_ ?_ | refine gos ?_ ?_ | refine cdn ?_ ?_ | refine cds ?_ ?_ | refine gpn ?_ ?_ | refine gps ?_ ?_) <;> intro h <;> (try simp only [dt, df, gi, gt] at h) <;> try simp -implicitDefEqProofs only [go_sem, *]) | ((with_reducible refine And.intro ?_ ?_); (· first | omega | (simp only [List.length_take]; omega)); try simp -implicitDefEqProofs only [go_sem, *]) | ((with_reducible refine enter_pu (toIntS_fn p.vals hb) ?_ ?_ ?_); (· rfl); (· rfl); try simp -implicitDefEqProofs only [go_sem, *])))
  exact fin_pu rfl rfl
theorem toRec_fn (r : Rc) : Fn1 Tryz.prog 98 [rA r] (rA r) := by
  refine fn1_of Tryz.func98 rfl rfl ?_
  simp -implicitDefEqProofs only [go_sem, Tryz.f98]
  (repeat' (first | ((with_reducible first | refine gon ?_ ?_ | refine gos ?_ ?_ | refine cdn ?_ ?_ | refine cds ?_ ?_ | refine gpn ?_ ?_ | refine gps ?_ ?_) <;> intro h <;> (try simp only [dt, df, gi, gt] at h) <;> try simp -implicitDefEqProofs only [go_sem, *]) | ((with_reducible refine And.intro ?_ ?_); (· first | omega | (simp only [List.length_take]; omega)); try simp -implicitDefEqProofs only [go_sem, *]) | fail))
  exact fin_pu rfl rfl
@[go_sem] theorem rep_r {n : Nat} : List.replicate n (AV.agg [.prim (.int .i64 0), .prim (.int .i64 0), .prim (.int .i64 0), .prim (.int .i64 0), .prim (.int .i64 0), .prim (.int .i64 0), .prim (.int .i64 0), .prim (.int .i64 0)]) = (List.replicate n (default : Rc)).map rA := by simp [default]
theorem toRecS_fn (l : List Rc) (hb : l.length ≤ 2000000) : Fn1 Tryz.prog 39 [recs l] (recs l) := by
  refine fn1_of Tryz.func39 rfl rfl ?_
  simp -implicitDefEqProofs only [go_sem, Tryz.f39]
  (repeat' (first | ((with_reducible first | refine gon ?_ ?_ | refine gos ?_ ?_ | refine cdn ?_ ?_ | refine cds ?_ ?_ | refine gpn ?_ ?_ | refine gps ?_ ?_) <;> intro h <;> (try simp only [dt, df, gi, gt] at h) <;> try simp -implicitDefEqProofs only [go_sem, *]) | ((with_reducible refine And.intro ?_ ?_); (· first | omega | (simp only [List.length_take]; omega)); try simp -implicitDefEqProofs only [go_sem, *]) | fail))
  refine cp_loop (fun i : Nat => ⟨(recs l :: .any :: nilS :: .own 0 8 0 l.length :: I (i : Int) :: .any :: .any :: .any :: .any :: .any :: .any :: .any :: .any :: .any :: .any :: .any :: .any :: .any :: .any :: .any :: .any :: .any :: .any :: []), [some ⟨8, (l.take i ++ List.replicate (l.length - i) default).map rA⟩], []⟩) (fun i => i ≤ l.length) (fun i => l.length - i) 0 ?_ ?_ ?_
  · simp
  · refine wk_tm ?_; repeat (first | exact WL.nil | (with_reducible refine WL.any _ _ _ ?_) | (with_reducible refine WL.same _ _ _ ?_) | (refine WL.eq _ _ _ _ rfl ?_))
  · rintro i hi
    have hbi : i < 4611686018427387904 := by omega
    have hfl : (l.take i ++ List.replicate (l.length - i) (default : Rc)).length = l.length := by simp; omega
    simp -implicitDefEqProofs only [go_sem, true_and]
    (repeat' (first | ((with_reducible first | refine gon ?_ ?_ | refine gos ?_ ?_ | refine cdn ?_ ?_ | refine cds ?_ ?_ | refine gpn ?_ ?_ | refine gps ?_ ?_) <;> intro h <;> (try simp only [dt, df, gi, gt] at h) <;> try simp -implicitDefEqProofs only [go_sem, *]) | ((with_reducible refine And.intro ?_ ?_); (· first | omega | (simp only [List.length_take]; omega)); try simp -implicitDefEqProofs only [go_sem, *]) | ((with_reducible refine enter_pu (toRec_fn _) ?_ ?_ ?_); (· rfl); (· rfl); try simp -implicitDefEqProofs only [go_sem, *])))
    · rw [fill_set l default i (by omega)]
      refine ⟨i + 1, by omega, by omega, ?_⟩
      refine wk_tm ?_; repeat (first | exact WL.nil | (with_reducible refine WL.any _ _ _ ?_) | (with_reducible refine WL.same _ _ _ ?_) | (refine WL.eq _ _ _ _ rfl ?_))
    · have e : i = l.length := by omega
      have e2 : List.take i l ++ List.replicate (l.length - i) (default : Rc) = l := by rw [e]; simp
      rw [e2]
      exact fin_1 (argT0 (arg0_r rfl rfl))
/-- A page, or the zero page. -/
def pZ : Option Pg → AV
  | some p => pA p
  | none => .agg [I 0, I 0, .prim (.slice none 0 0)]
@[go_sem] theorem rep_p {n : Nat} : List.replicate n (AV.agg [.prim (.int .i64 0), .prim (.int .i64 0), .prim (.slice none 0 0)]) = (List.replicate n (none : Option Pg)).map pZ := by simp [pZ]
@[go_sem] theorem pz_put {x : Option Pg} {a b c : AV} : AV.putAt (pZ x) 0 [a, b, c] = .agg [a, b, c] := by cases x <;> rfl
@[go_sem] theorem set_z {l : List (Option Pg)} {k : Nat} {a b : Int} {v : List Int} : (l.map pZ).set k (.agg [I a, I b, ints v]) = (l.set k (some (⟨a, b, v⟩ : Pg))).map pZ := by rw [List.map_set]; rfl
theorem map_pZ (l : List Pg) : (l.map some).map pZ = l.map pA := by rw [List.map_map]; rfl
theorem toPageS_fn (l : List Pg) (hb : l.length ≤ 2000000) (hv : ∀ p ∈ l, p.vals.length ≤ 2000000) : Fn1 Tryz.prog 38 [pgs l] (pgs l) := by
  refine fn1_of Tryz.func38 rfl rfl ?_
  simp -implicitDefEqProofs only [go_sem, Tryz.f38]
  (repeat' (first | ((with_reducible first | refine gon ?_ ?_ | refine gos ?_ ?_ | refine cdn ?_ ?_ | refine cds ?_ ?_ | refine gpn ?_ ?_ | refine gps ?_ ?_) <;> intro h <;> (try simp only [dt, df, gi, gt] at h) <;> try simp -implicitDefEqProofs only [go_sem, *]) | ((with_reducible refine And.intro ?_ ?_); (· first | omega | (simp only [List.length_take]; omega)); try simp -implicitDefEqProofs only [go_sem, *]) | fail))
  refine cp_loop (fun i : Nat => ⟨(pgs l :: .any :: nilS :: .own 0 3 0 l.length :: I (i : Int) :: .any :: .any :: .any :: .any :: .any :: .any :: .any :: .any :: .any :: .any :: .any :: .any :: .any :: .any :: .any :: .any :: .any :: .any :: []), [some ⟨3, ((l.take i).map some ++ List.replicate (l.length - i) none).map pZ⟩], []⟩) (fun i => i ≤ l.length) (fun i => l.length - i) 0 ?_ ?_ ?_
  · simp
  · refine wk_tm ?_; repeat (first | exact WL.nil | (with_reducible refine WL.any _ _ _ ?_) | (with_reducible refine WL.same _ _ _ ?_) | (refine WL.eq _ _ _ _ rfl ?_))
  · rintro i hi
    have hbi : i < 4611686018427387904 := by omega
    have hfl : ((l.take i).map some ++ List.replicate (l.length - i) (none : Option Pg)).length = l.length := by simp; omega
    simp -implicitDefEqProofs only [go_sem, true_and]
    (repeat' (first | ((with_reducible first | refine gon ?_ ?_ | refine gos ?_ ?_ | refine cdn ?_ ?_ | refine cds ?_ ?_ | refine gpn ?_ ?_ | refine gps ?_ ?_) <;> intro h <;> (try simp only [dt, df, gi, gt] at h) <;> try simp -implicitDefEqProofs only [go_sem, *]) | ((with_reducible refine And.intro ?_ ?_); (· first | omega | (simp only [List.length_take]; omega)); try simp -implicitDefEqProofs only [go_sem, *]) | ((with_reducible refine enter_pu (toPage_fn _ (hv _ (at_mem l i (by omega)))) ?_ ?_ ?_); (· rfl); (· rfl); try simp -implicitDefEqProofs only [go_sem, *])))
    · have e : (List.map some (List.take i l) ++ List.replicate (l.length - i) (none : Option Pg)).set i (some (at' l (i : Int))) = List.map some (List.take (i + 1) l) ++ List.replicate (l.length - (i + 1)) none := by
        rw [← take_at l i (by omega), List.map_append, List.map_cons, List.map_nil, List.append_assoc, List.set_append_right _ _ (by simp; omega), List.length_map, List.length_take, Nat.min_eq_left (by omega), Nat.sub_self, show l.length - i = (l.length - (i + 1)) + 1 by omega, List.replicate_succ]
        rfl
      rw [e]
      refine ⟨i + 1, by omega, by omega, ?_⟩
      refine wk_tm ?_; repeat (first | exact WL.nil | (with_reducible refine WL.any _ _ _ ?_) | (with_reducible refine WL.same _ _ _ ?_) | (refine WL.eq _ _ _ _ rfl ?_))
    · have e : i = l.length := by omega
      have e2 : List.map some (List.take i l) ++ List.replicate (l.length - i) (none : Option Pg) = l.map some := by rw [e]; simp
      rw [e2, map_pZ]
      exact fin_1 (argT0 (arg0_p rfl rfl))
structure Eng.mid (e : Eng) : Prop where
  disk : e.disk.length ≤ 2000000
  mem : e.mem.length ≤ 2000000
  log : e.log.length ≤ 2000000
  dv : ∀ p ∈ e.disk, p.vals.length ≤ 2000000
  mv : ∀ p ∈ e.mem, p.vals.length ≤ 2000000
theorem toEngine_fn (e : Eng) (h : e.mid) : Fn1 Tryz.prog 9 [eA e] (eA e) := by
  refine fn1_of Tryz.func9 rfl rfl ?_
  simp -implicitDefEqProofs only [go_sem, Tryz.f9]
  (repeat' (first | ((with_reducible first | refine gon ?_ ?_ | refine gos ?_ ?_ | refine cdn ?_ ?_ | refine cds ?_ ?_ | refine gpn ?_ ?_ | refine gps ?_ ?_) <;> intro h <;> (try simp only [dt, df, gi, gt] at h) <;> try simp -implicitDefEqProofs only [go_sem, *]) | ((with_reducible refine And.intro ?_ ?_); (· first | omega | (simp only [List.length_take]; omega)); try simp -implicitDefEqProofs only [go_sem, *]) | first | ((with_reducible refine enter_pu (toPageS_fn e.disk h.disk h.dv) ?_ ?_ ?_); (· rfl); (· rfl); try simp -implicitDefEqProofs only [go_sem, *]) | ((with_reducible refine enter_pu (toPageS_fn e.mem h.mem h.mv) ?_ ?_ ?_); (· rfl); (· rfl); try simp -implicitDefEqProofs only [go_sem, *]) | ((with_reducible refine enter_pu (toRecS_fn e.log h.log) ?_ ?_ ?_); (· rfl); (· rfl); try simp -implicitDefEqProofs only [go_sem, *])))
  exact fin_pu rfl rfl
end
section
def mayB (e : Eng) (tx page : Int) : Bool := !e.down && isIn tx 1 3 && isIn page 0 4 && (decide (lockFrom e.log page 0 = 0) || decide ((lockFrom e.log page 0 : Int) = tx))
theorem l12May_fn (e : Eng) (tx page : Int) (hw : Wf e.log) : Fn1 Tryz.prog 94 [eA e, I tx, I page] (Bo (mayB e tx page)) := by
  have hlk : ∀ d : Bool, Fn1 Tryz.prog 122 [.agg [pgs e.disk, pgs e.mem, recs e.log, I e.safe, Bo d], I page] (I (lockFrom e.log page 0)) := fun d => l11Lock_fn ⟨e.disk, e.mem, e.log, e.safe, d⟩ page hw
  refine fn1_of Tryz.func94 rfl rfl ?_
  simp -implicitDefEqProofs only [go_sem, Tryz.f94]
  (repeat' (first | ((with_reducible first | refine gon ?_ ?_ | refine gos ?_ ?_ | refine cdn ?_ ?_ | refine cds ?_ ?_ | refine gpn ?_ ?_ | refine gps ?_ ?_) <;> intro h <;> (try simp only [dt, df, gi, gt] at h) <;> try simp -implicitDefEqProofs only [go_sem, *]) | ((with_reducible refine And.intro ?_ ?_); (· first | omega | (simp only [List.length_take]; omega)); try simp -implicitDefEqProofs only [go_sem, *]) | first | ((with_reducible refine enter_pu (l6In_fn _ _ _) ?_ ?_ ?_); (· rfl); (· rfl); try simp -implicitDefEqProofs only [go_sem, *]) | ((with_reducible refine enter_pu (hlk _) ?_ ?_ ?_); (· rfl); (· rfl); try simp -implicitDefEqProofs only [go_sem, *])))
  all_goals try ((with_reducible refine fin_pu ?_ ?_); (· (simp_all [mayB]) <;> (first | omega | (rw [Bool.eq_iff_iff]; simp; done) | (rw [Bool.eq_iff_iff]; simp; omega) | (split <;> (first | rfl | omega | (simp_all; done))))); (· rfl))
end
section
def dec1 (n : Int) : ByteArray := textOf [.prim (.int .u8 (48 + n))]
theorem wrap8 {n : Int} (h0 : 0 ≤ n) (h1 : n < 256) : IntKind.u8.wrap n = n := by
  simp only [IntKind.wrap, IntKind.signed]
  simp only [IntKind.bits]
  simp
  omega
theorem dec1_size (n : Int) : (dec1 n).size = 1 := rfl
theorem l6Dec_fn (n : Int) (h0 : 0 ≤ n) (h9 : n ≤ 9) : Fn1 Tryz.prog 148 [I n] (.prim (.string (dec1 n))) := by
  have e1 : IntKind.u8.wrap (48 + n) = 48 + n := wrap8 (by omega) (by omega)
  have e2 : IntKind.i64.wrap (48 + n) = 48 + n := wrap_ok (by omega) (by omega)
  have e3 : ¬ n < -9223372036854775807 := by omega
  have e4 : ¬ n < 0 := by omega
  have e5 : n < 10 := by omega
  have e6 : isByte (.prim (.int .u8 (48 + n))) = true := by simp [isByte]; omega
  refine fn1_of Tryz.func148 rfl rfl ?_
  simp -implicitDefEqProofs only [go_sem, Tryz.f148, e1, e2]
  (repeat' (first | ((with_reducible first | refine gon ?_ ?_ | refine gos ?_ ?_ | refine cdn ?_ ?_ | refine cds ?_ ?_ | refine gpn ?_ ?_ | refine gps ?_ ?_) <;> intro h <;> (try simp only [dt, df, gi, gt] at h) <;> try simp -implicitDefEqProofs only [go_sem, *]) | ((with_reducible refine And.intro ?_ ?_); (· first | omega | (simp only [List.length_take]; omega)); try simp -implicitDefEqProofs only [go_sem, *]) | fail))
  · exact absurd h e3
  · exact fin_pu rfl rfl
def txtTo (p : Pg) : Nat → ByteArray
  | 0 => dec1 p.owner
  | i + 1 => txtTo p i ++ ByteArray.mk #[32] ++ dec1 (at' p.vals (i : Int))
def Pg.txt (p : Pg) : ByteArray := if p.ok = true then txtTo p 3 else ByteArray.mk #[]
theorem Pg.txt_ok {p : Pg} (h : p.ok = true) : p.txt = txtTo p 3 := if_pos h
theorem txtTo_size (p : Pg) : ∀ i, (txtTo p i).size = 1 + 2 * i
  | 0 => rfl
  | i + 1 => by
    rw [txtTo, ByteArray.size_append, ByteArray.size_append, txtTo_size p i, dec1_size]
    show 1 + 2 * i + 1 + 1 = _
    omega
theorem Pg.ok_len {p : Pg} (h : p.ok = true) : p.vals.length = 3 := by
  unfold Pg.ok at h
  simp only [Bool.and_eq_true, decide_eq_true_eq] at h
  omega
theorem Pg.ok_own {p : Pg} (h : p.ok = true) : 0 ≤ p.owner ∧ p.owner ≤ 3 := by
  unfold Pg.ok isIn at h
  simp only [Bool.and_eq_true, decide_eq_true_eq] at h
  omega
theorem Pg.ok_val {p : Pg} (h : p.ok = true) (k : Nat) (hk : k < 3) : 0 ≤ at' p.vals (k : Int) ∧ at' p.vals (k : Int) ≤ 9 := by
  have hl := Pg.ok_len h
  unfold Pg.ok at h
  simp only [Bool.and_eq_true, decide_eq_true_eq, allFrom_iff] at h
  have := h.2 k (Nat.zero_le _) (by omega)
  unfold Pg.good isIn at this
  simp only [Bool.and_eq_true, decide_eq_true_eq] at this
  omega
theorem PageText_fn (p : Pg) : Fn1 Tryz.prog 116 [pA p] (.prim (.string p.txt)) := by
  refine fn1_of Tryz.func116 rfl rfl ?_
  by_cases hok : p.ok = true
  · have hl := Pg.ok_len hok
    have ho := Pg.ok_own hok
    simp -implicitDefEqProofs only [go_sem, Tryz.f116, hok]
    (repeat' (first | ((with_reducible first | refine gon ?_ ?_ | refine gos ?_ ?_ | refine cdn ?_ ?_ | refine cds ?_ ?_ | refine gpn ?_ ?_ | refine gps ?_ ?_) <;> intro h <;> (try simp only [dt, df, gi, gt] at h) <;> try simp -implicitDefEqProofs only [go_sem, *]) | ((with_reducible refine And.intro ?_ ?_); (· first | omega | (simp only [List.length_take]; omega)); try simp -implicitDefEqProofs only [go_sem, *]) | first | ((with_reducible refine enter_pu (PageOk_fn _) ?_ ?_ ?_); (· rfl); (· rfl); try simp -implicitDefEqProofs only [go_sem, *]) | ((with_reducible refine enter_pu (l6Dec_fn p.owner ho.1 (by omega)) ?_ ?_ ?_); (· rfl); (· rfl); try simp -implicitDefEqProofs only [go_sem, *])))
    refine cp_loop (fun i : Nat => ⟨(pA p :: .ref 0 3 0 0 :: .prim (.string (ByteArray.mk #[])) :: .prim (.string (txtTo p i)) :: I (i : Int) :: .any :: .any :: .any :: .any :: .any :: .any :: .any :: .any :: .any :: .any :: .any :: .any :: .any :: .any :: .any :: .any :: .any :: .any :: .any :: .any :: .any :: .any :: .any :: []), [some ⟨3, [pA p]⟩], []⟩) (fun i => i ≤ 3) (fun i => 3 - i) 0 ?_ ?_ ?_
    · omega
    · refine wk_tm ?_; repeat (first | exact WL.nil | (with_reducible refine WL.any _ _ _ ?_) | (with_reducible refine WL.same _ _ _ ?_) | (refine WL.eq _ _ _ _ rfl ?_))
    · rintro i hi
      have hb : i < 4611686018427387904 := by omega
      have hs := txtTo_size p i
      by_cases h3 : i < 3
      · have hv := Pg.ok_val hok i h3
        have hs1 := dec1_size (at' p.vals (i : Int))
        have h3' : (i : Int) < ((3 : Nat) : Int) := by omega
        have hs2 : (txtTo p i ++ ByteArray.mk #[32]).size = 2 + 2 * i := by rw [ByteArray.size_append, hs]; show 1 + 2 * i + 1 = _; omega
        have hs3 : (ByteArray.mk #[32]).size = 1 := rfl
        simp -implicitDefEqProofs only [go_sem, hl]
        (repeat' (first | ((with_reducible first | refine gon ?_ ?_ | refine gos ?_ ?_ | refine cdn ?_ ?_ | refine cds ?_ ?_ | refine gpn ?_ ?_ | refine gps ?_ ?_) <;> intro h <;> (try simp only [dt, df, gi, gt] at h) <;> try simp -implicitDefEqProofs only [go_sem, *]) | ((with_reducible refine And.intro ?_ ?_); (· first | omega | (simp only [List.length_take]; omega)); try simp -implicitDefEqProofs only [go_sem, *]) | ((with_reducible refine enter_pu (l6Dec_fn (at' p.vals (i : Int)) hv.1 hv.2) ?_ ?_ ?_); (· rfl); (· rfl); try simp -implicitDefEqProofs only [go_sem, *])))
        · refine ⟨i + 1, by omega, by omega, ?_⟩
          rw [show txtTo p (i + 1) = txtTo p i ++ ByteArray.mk #[32] ++ dec1 (at' p.vals (i : Int)) from rfl]
          refine wk_tm ?_; repeat (first | exact WL.nil | (with_reducible refine WL.any _ _ _ ?_) | (with_reducible refine WL.same _ _ _ ?_) | (refine WL.eq _ _ _ _ rfl ?_))
        · exfalso; omega
      · have h3' : ¬ (i : Int) < ((3 : Nat) : Int) := by omega
        obtain rfl : i = 3 := by omega
        simp -implicitDefEqProofs only [go_sem, hl]
        (repeat' (first | ((with_reducible first | refine gon ?_ ?_ | refine gos ?_ ?_ | refine cdn ?_ ?_ | refine cds ?_ ?_ | refine gpn ?_ ?_ | refine gps ?_ ?_) <;> intro h <;> (try simp only [dt, df, gi, gt] at h) <;> try simp -implicitDefEqProofs only [go_sem, *]) | ((with_reducible refine And.intro ?_ ?_); (· first | omega | (simp only [List.length_take]; omega)); try simp -implicitDefEqProofs only [go_sem, *]) | fail))
        all_goals first | (exfalso; omega) | exact fin_pu (by rw [Pg.txt_ok hok]) rfl
  · simp -implicitDefEqProofs only [go_sem, Tryz.f116, hok]
    (repeat' (first | ((with_reducible first | refine gon ?_ ?_ | refine gos ?_ ?_ | refine cdn ?_ ?_ | refine cds ?_ ?_ | refine gpn ?_ ?_ | refine gps ?_ ?_) <;> intro h <;> (try simp only [dt, df, gi, gt] at h) <;> try simp -implicitDefEqProofs only [go_sem, *]) | ((with_reducible refine And.intro ?_ ?_); (· first | omega | (simp only [List.length_take]; omega)); try simp -implicitDefEqProofs only [go_sem, *]) | first | ((with_reducible refine enter_pu (PageOk_fn _) ?_ ?_ ?_); (· rfl); (· rfl); try simp -implicitDefEqProofs only [go_sem, *])))
    exact fin_pu (by simp [Pg.txt, hok]) rfl
theorem l11Same_fn (p q : Pg) : Fn1 Tryz.prog 67 [pA p, pA q] (Bo ((p.lsn == q.lsn) && (p.txt.toList == q.txt.toList))) := by
  refine fn1_of Tryz.func67 rfl rfl ?_
  simp -implicitDefEqProofs only [go_sem, Tryz.f67]
  ((with_reducible refine cp_draw (id := 1) 13 mixed ?_ ?_ ?_); (· decide +kernel); (· first | (simp only [List.all_cons, List.all_nil, List.length_cons, List.length_nil, Nat.reduceAdd, Nat.reduceLT, decide_true, Bool.and_true, Bool.and_self]; done) | rfl); try simp -implicitDefEqProofs only [go_sem, *])
  (repeat' (first | ((with_reducible first | refine gon ?_ ?_ | refine gos ?_ ?_ | refine cdn ?_ ?_ | refine cds ?_ ?_ | refine gpn ?_ ?_ | refine gps ?_ ?_) <;> intro h <;> (try simp only [dt, df, gi, gt] at h) <;> try simp -implicitDefEqProofs only [go_sem, *]) | ((with_reducible refine And.intro ?_ ?_); (· first | omega | (simp only [List.length_take]; omega)); try simp -implicitDefEqProofs only [go_sem, *]) | ((with_reducible refine pre_enter _ (det_pu (PageText_fn _) ?_ ?_) ?_ ?_); (· rfl); (· rfl); (· rfl); try simp -implicitDefEqProofs only [go_sem, *])))
  · exact fin_pu rfl rfl
  · exact fin_pu rfl rfl
theorem txt3 {p : Pg} (h : p.ok = true) : p.txt.toList = [UInt8.ofNat (48 + p.owner).toNat, 32, UInt8.ofNat (48 + at' p.vals 0).toNat, 32, UInt8.ofNat (48 + at' p.vals 1).toNat, 32, UInt8.ofNat (48 + at' p.vals 2).toNat] := by
  rw [Pg.txt_ok h, Go.ByteArray.toList_eq]
  simp only [txtTo, ByteArray.data_append, Array.toList_append]
  rfl
theorem byte_inj {a b : Int} (ha : 0 ≤ a ∧ a ≤ 9) (hb : 0 ≤ b ∧ b ≤ 9) : (UInt8.ofNat (48 + a).toNat = UInt8.ofNat (48 + b).toNat) ↔ a = b := by
  constructor
  · intro h
    have := congrArg UInt8.toNat h
    simp only [UInt8.toNat_ofNat'] at this
    omega
  · rintro rfl; rfl
theorem same_txt {p q : Pg} (hp : p.ok = true) (hq : q.ok = true) : ((p.lsn == q.lsn) && (p.txt.toList == q.txt.toList)) = sameP p q := by
  have ho := Pg.ok_own hp
  have ho' := Pg.ok_own hq
  have v0 := Pg.ok_val hp 0 (by omega)
  have v1 := Pg.ok_val hp 1 (by omega)
  have v2 := Pg.ok_val hp 2 (by omega)
  have w0 := Pg.ok_val hq 0 (by omega)
  have w1 := Pg.ok_val hq 1 (by omega)
  have w2 := Pg.ok_val hq 2 (by omega)
  have hl := Pg.ok_len hp
  have hl' := Pg.ok_len hq
  have b0 : (UInt8.ofNat (48 + at' p.vals 0).toNat = UInt8.ofNat (48 + at' q.vals 0).toNat) = (at' p.vals 0 = at' q.vals 0) := propext (byte_inj v0 w0)
  have b1 : (UInt8.ofNat (48 + at' p.vals 1).toNat = UInt8.ofNat (48 + at' q.vals 1).toNat) = (at' p.vals 1 = at' q.vals 1) := propext (byte_inj v1 w1)
  have b2 : (UInt8.ofNat (48 + at' p.vals 2).toNat = UInt8.ofNat (48 + at' q.vals 2).toNat) = (at' p.vals 2 = at' q.vals 2) := propext (byte_inj v2 w2)
  rw [txt3 hp, txt3 hq, Bool.eq_iff_iff]
  unfold sameP sameInts
  simp only [Bool.and_eq_true, beq_iff_eq, decide_eq_true_eq, allFrom_iff, List.cons.injEq, byte_inj (a := p.owner) (b := q.owner) (by omega) (by omega), b0, b1, b2]
  constructor
  · rintro ⟨h1, h2, _, h3, _, h4, _, h5, _⟩
    refine ⟨⟨h1, h2⟩, by omega, fun k _ hk => ?_⟩
    rcases k with _ | _ | _ | k
    · exact h3
    · exact h4
    · exact h5
    · omega
  · rintro ⟨⟨h1, h2⟩, _, h3⟩
    exact ⟨h1, h2, trivial, h3 0 (by omega) (by omega), trivial, h3 1 (by omega) (by omega), trivial, h3 2 (by omega) (by omega), trivial⟩
theorem l11Same_ok (p q : Pg) (hp : p.ok = true) (hq : q.ok = true) : Fn1 Tryz.prog 67 [pA p, pA q] (Bo (sameP p q)) := by
  rw [← same_txt hp hq]
  exact l11Same_fn p q
theorem pgsOk_iff {ps : List Pg} : pgsOk ps = true ↔ ps.length = 5 ∧ ∀ k : Nat, k < 5 → (at' ps (k : Int)).ok = true := by
  unfold pgsOk
  simp only [Bool.and_eq_true, decide_eq_true_eq, allFrom_iff]
  constructor
  · rintro ⟨h1, h2⟩
    exact ⟨h2, fun k hk => h1 k (Nat.zero_le _) (by omega)⟩
  · rintro ⟨h1, h2⟩
    exact ⟨fun k _ hk => h2 k (by omega), h1⟩
theorem l11Fresh_fn (e : Eng) (page : Nat) (hp : page < 5) (hm : pgsOk e.mem = true) (hd : pgsOk e.disk = true) (hl : e.log.length < 4611686018427387904) : Fn1 Tryz.prog 69 [eA e, I page]
    (Bo (((at' e.mem (page : Int)).lsn == (pageTo e.log page e.log.length : Int)) && (decide ((at' e.disk (page : Int)).lsn < (at' e.mem (page : Int)).lsn) || sameP (at' e.mem (page : Int)) (at' e.disk (page : Int))))) := by
  have hs := l11Same_ok _ _ ((pgsOk_iff.1 hm).2 page hp) ((pgsOk_iff.1 hd).2 page hp)
  have hm5 := (pgsOk_iff.1 hm).1
  have hd5 := (pgsOk_iff.1 hd).1
  clear hm hd
  have hpl := l11Last_fn e.log page hl
  refine fn1_of Tryz.func69 rfl rfl ?_
  simp -implicitDefEqProofs only [go_sem, Tryz.f69]
  ((with_reducible refine cp_draw (id := 1) 40 mixed ?_ ?_ ?_); (· decide +kernel); (· first | (simp only [List.all_cons, List.all_nil, List.length_cons, List.length_nil, Nat.reduceAdd, Nat.reduceLT, decide_true, Bool.and_true, Bool.and_self]; done) | rfl); try simp -implicitDefEqProofs only [go_sem, *])
  (repeat' (first | ((with_reducible first | refine gon ?_ ?_ | refine gos ?_ ?_ | refine cdn ?_ ?_ | refine cds ?_ ?_ | refine gpn ?_ ?_ | refine gps ?_ ?_) <;> intro h <;> (try simp only [dt, df, gi, gt] at h) <;> try simp -implicitDefEqProofs only [go_sem, *]) | ((with_reducible refine And.intro ?_ ?_); (· first | omega | (simp only [List.length_take]; omega)); try simp -implicitDefEqProofs only [go_sem, *]) | first | ((with_reducible refine pre_enter _ (det_pu (hpl) ?_ ?_) ?_ ?_); (· rfl); (· rfl); (· rfl); try simp -implicitDefEqProofs only [go_sem, *]) | ((with_reducible refine pre_enter _ (det_pu (hs) ?_ ?_) ?_ ?_); (· rfl); (· rfl); (· rfl); try simp -implicitDefEqProofs only [go_sem, *])))
  all_goals exact fin_pu rfl rfl
end
end Go.Proofs.YtfcnajhanjhonaaGreat.Am
end
section
set_option linter.unusedVariables false
set_option linter.unusedSimpArgs false
set_option maxRecDepth 100000
set_option maxHeartbeats 8000000
namespace Go.Proofs.YtfcnajhanjhonaaGreat.Am
open Go Go.RowKit Go.Proofs
attribute [local congr] opsP_congr codeP_congr AWP_congr afterR_congr preP_congr afterPre_congr gPre_congr gOps_congr condP_congr stepE_congr
attribute [local go_sem] ty_int ty_bool ty_str ty_u8 ty_ints ty_bytes ty_page ty_pages ty_lpage ty_lpages ty_rec ty_recs ty_lrec ty_lrecs ty_eng ty_leng
attribute [local go_sem] true_and and_true beq_true' beq_false' toNat_cast Int.natCast_nonneg Bool.not_not Bool.not_true Bool.not_false decide_true decide_false Bool.or_false Bool.false_or Bool.or_true Bool.true_or Bool.and_false Bool.false_and Nat.zero_add Int.toNat_of_nonneg wrap_succ wrap_m1 wrap_nat succ_m1 cast0 succ_pos' succ_ne' succ_bne' ge_iff_le gt_iff_lt if_true if_false
theorem Wf.take {l : List Rc} (h : Wf l) (n : Nat) : Wf (l.take n) := by
  have hl : (l.take n).length ≤ l.length := by rw [List.length_take]; omega
  have hn : (l.take n).length ≤ n := by rw [List.length_take]; omega
  refine ⟨by have := h.len; omega, fun i hi => ?_, fun i hi => ?_, fun i hi => ?_⟩
  · rw [at_take l n (by omega)]; exact h.prev i (by omega)
  · rw [at_take l n (by omega)]; exact h.next i (by omega)
  · rw [at_take l n (by omega)]; exact h.rok i (by omega)
theorem sz_of {ps : List Pg} (h : pgsOk ps = true) : Sz ps := ⟨(pgsOk_iff.1 h).1, fun k hk => Pg.ok_len ((pgsOk_iff.1 h).2 k hk)⟩
def preB (e : Eng) (n : Nat) : Bool := pgsOk (redoTo e.disk e.log n) && undoneB (redoTo e.disk e.log n) (e.log.take n)
def heldTo (l : List Rc) (page : Int) : Nat → Nat
  | 0 => 0
  | t + 1 => heldTo l page t + if hasIn l ((t + 1 : Nat) : Int) page = true then 1 else 0
def Eng.redo (e : Eng) : List Pg := redoTo e.disk e.log e.log.length
def freshB (e : Eng) (p : Nat) : Bool := ((at' e.mem (p : Int)).lsn == (pageTo e.log p e.log.length : Int)) && (decide ((at' e.disk (p : Int)).lsn < (at' e.mem (p : Int)).lsn) || sameP (at' e.mem (p : Int)) (at' e.disk (p : Int)))
def memB (e : Eng) (p : Nat) : Bool :=
  if loadedIn e.log p = true then ((at' e.mem (p : Int)).owner == (at' e.redo (p : Int)).owner) && freshB e p else sameP (at' e.mem (p : Int)) (at' e.redo (p : Int))
def pgB (e : Eng) (p : Nat) : Bool :=
  decide ((at' e.disk (p : Int)).lsn ≤ e.safe) && (if e.down = true then sameP (at' e.mem (p : Int)) (at' e.disk (p : Int)) else memB e p) && decide (heldTo e.log p 3 ≤ 1)
def okE (e : Eng) : Bool :=
  pgsOk e.disk && pgsOk e.mem && logOk e.log && isIn e.safe 0 e.log.length && decide (e.log.length + needTo e.log 3 ≤ 150) &&
  allFrom (preB e) e.safe.toNat (e.log.length + 1) && allFrom (pgB e) 0 5
theorem redo_lsn {ps : List Pg} {l : List Rc} (h : Sz ps) (hw : Wf l) (p : Nat) (hp : p < 5) : ∀ n, n ≤ l.length → (at' ps (p : Int)).lsn ≤ (at' (redoTo ps l n) (p : Int)).lsn
  | 0, _ => Int.le_refl _
  | n + 1, hn => by
    have ih := redo_lsn h hw p hp n (by omega)
    have hs := redoTo_sz h hw n (by omega)
    obtain ⟨m, hm, hpg⟩ := Rc.ok_page (hw.rok n (by omega))
    rw [redoTo, redo1]
    split
    · rename_i hc
      rw [hpg] at hc ⊢
      rw [Int.toNat_natCast, at_set _ _ _ _ (by rw [hs.len]; omega)]
      split
      · rename_i e
        subst e
        have : (doP (at' (redoTo ps l n) (p : Int)) (at' l (n : Int)) ((n + 1 : Nat) : Int)).lsn = ((n + 1 : Nat) : Int) := by unfold doP; split <;> rfl
        rw [this]
        omega
      · exact ih
    · exact ih
theorem pgB_leaf {e : Eng} {p : Nat} {b : Bool} (hg : (pgB e p && b) = okE e) (h : pgB e p = false) : AV.prim (.bool false) = Bo (okE e) := by
  rw [← hg, h]; rfl
theorem heldTo_le (l : List Rc) (page : Int) : ∀ t, heldTo l page t ≤ t
  | 0 => Nat.le_refl _
  | t + 1 => by
    have := heldTo_le l page t
    rw [heldTo]
    split <;> omega
end Go.Proofs.YtfcnajhanjhonaaGreat.Am
end
section
set_option linter.unusedVariables false
set_option linter.unusedSimpArgs false
namespace Go.Proofs.YtfcnajhanjhonaaGreat.Am
open Go Go.RowKit
/-- Two logs have the same first n records. -/
def Agree (l l' : List Rc) (n : Nat) : Prop := ∀ i, i < n → at' l (i : Int) = at' l' (i : Int)
theorem Agree.mono {l l' : List Rc} {n m : Nat} (h : Agree l l' n) (hm : m ≤ n) : Agree l l' m := fun i hi => h i (by omega)
theorem at_app_l (l : List Rc) (x : Rc) {i : Nat} (h : i < l.length) : at' (l ++ [x]) (i : Int) = at' l (i : Int) := by
  simp [at', List.getD, List.getElem?_append_left h]
theorem at_app_n (l : List Rc) (x : Rc) : at' (l ++ [x]) (l.length : Int) = x := by
  simp [at', List.getD]
theorem agree_app (l : List Rc) (x : Rc) : Agree (l ++ [x]) l l.length := fun i hi => at_app_l l x hi
theorem lastTo_agree {l l' : List Rc} (tx : Int) : ∀ n, Agree l l' n → lastTo l tx n = lastTo l' tx n
  | 0, _ => rfl
  | n + 1, h => by
    unfold lastTo
    rw [h n (by omega), lastTo_agree tx n (h.mono (by omega))]
theorem ok_bnd {r : Rc} (h : r.ok = true) : (1 ≤ r.tx ∧ r.tx ≤ 3) ∧ (0 ≤ r.prev ∧ r.prev ≤ 150) ∧ (0 ≤ r.next ∧ r.next ≤ 150) := by
  unfold Rc.ok isIn at h
  simp only [Bool.and_eq_true, decide_eq_true_eq] at h
  exact ⟨h.1.1.1, h.1.1.2, h.1.2⟩
theorem wf_app {l : List Rc} {x : Rc} (h : Wf l) (hl : l.length < 200) (hx : x.ok = true) (hp : x.prev ≤ l.length) (hn : x.next ≤ l.length) : Wf (l ++ [x]) := by
  obtain ⟨_, h1, h2⟩ := ok_bnd hx
  have key : ∀ i : Nat, i < (l ++ [x]).length → (i < l.length ∧ at' (l ++ [x]) (i : Int) = at' l (i : Int)) ∨ (i = l.length ∧ at' (l ++ [x]) (i : Int) = x) := by
    intro i hi
    rw [List.length_append, List.length_singleton] at hi
    rcases Nat.lt_or_ge i l.length with hlt | hge
    · exact .inl ⟨hlt, at_app_l l x hlt⟩
    · have e : i = l.length := by omega
      subst e
      exact .inr ⟨rfl, at_app_n l x⟩
  refine ⟨by simp; omega, fun i hi => ?_, fun i hi => ?_, fun i hi => ?_⟩ <;> rcases key i hi with ⟨hlt, e⟩ | ⟨e0, e⟩ <;> rw [e]
  · exact h.prev i hlt
  · exact ⟨x.prev.toNat, by omega, by omega⟩
  · exact h.next i hlt
  · exact ⟨x.next.toNat, by omega, by omega⟩
  · exact h.rok i hlt
  · exact hx
theorem stepOk_agree {l l' : List Rc} {i : Nat} (h : Agree l l' (i + 1)) : stepOk l i = stepOk l' i := by
  unfold stepOk
  rw [h i (by omega), lastTo_agree _ i (h.mono (by omega))]
  by_cases h1 : (at' l' (i : Int)).next ≤ 0
  · simp [h1]
  · by_cases h2 : (at' l' (i : Int)).next ≤ (i : Int)
    · have e : (at' l' (i : Int)).next - 1 = (((at' l' (i : Int)).next - 1).toNat : Int) := by omega
      rw [e, h _ (by omega)]
    · simp [h2]
theorem logOk_iff {l : List Rc} : logOk l = true ↔ (∀ i, i < l.length → stepOk l i = true) ∧ l.length ≤ 150 := by
  unfold logOk
  rw [Bool.and_eq_true, allFrom_iff, decide_eq_true_eq]
  exact ⟨fun h => ⟨fun i hi => h.1 i (Nat.zero_le _) hi, h.2⟩, fun h => ⟨fun i _ hi => h.1 i hi, h.2⟩⟩
theorem logOk_app {l : List Rc} {x : Rc} (h : logOk l = true) (hl : l.length < 150) (hx : x.ok = true) (hp : x.prev = (lastN l x.tx : Int)) (hn : x.next ≤ l.length) (ht : x.next ≤ 0 ∨ (at' l (x.next - 1)).tx = x.tx) : logOk (l ++ [x]) = true := by
  rw [logOk_iff] at h ⊢
  refine ⟨fun i hi => ?_, by simp; omega⟩
  rw [List.length_append, List.length_singleton] at hi
  rcases Nat.lt_or_ge i l.length with hlt | hge
  · rw [stepOk_agree (agree_app l x |>.mono (by omega))]
    exact h.1 i hlt
  · have e : i = l.length := by omega
    subst e
    have hlast : lastTo (l ++ [x]) x.tx l.length = lastN l x.tx := lastTo_agree _ _ (agree_app l x)
    obtain ⟨_, _, hn0, _⟩ := ok_bnd hx
    unfold stepOk
    rw [at_app_n, hlast]
    simp only [Bool.and_eq_true, Bool.or_eq_true, decide_eq_true_eq]
    refine ⟨⟨⟨hx, hp⟩, hn⟩, ?_⟩
    rcases (by omega : 0 < x.next ∨ x.next ≤ 0) with h0 | h0
    · right
      have e : x.next - 1 = ((x.next - 1).toNat : Int) := by omega
      rw [e, at_app_l l x (by omega), ← e]
      exact ht.resolve_left (by omega)
    · exact .inl h0
end Go.Proofs.YtfcnajhanjhonaaGreat.Am
end
section
set_option linter.unusedVariables false
set_option linter.unusedSimpArgs false
set_option maxRecDepth 100000
set_option maxHeartbeats 8000000
namespace Go.Proofs.YtfcnajhanjhonaaGreat.Am
open Go Go.RowKit Go.Proofs
attribute [local congr] opsP_congr codeP_congr AWP_congr afterR_congr preP_congr afterPre_congr gPre_congr gOps_congr condP_congr stepE_congr
attribute [local go_sem] ty_int ty_bool ty_str ty_u8 ty_ints ty_bytes ty_page ty_pages ty_lpage ty_lpages ty_rec ty_recs ty_lrec ty_lrecs ty_eng ty_leng
attribute [local go_sem] true_and and_true beq_true' beq_false' toNat_cast Int.natCast_nonneg Bool.not_not Bool.not_true Bool.not_false decide_true decide_false Bool.or_false Bool.false_or Bool.or_true Bool.true_or Bool.and_false Bool.false_and Nat.zero_add Int.toNat_of_nonneg wrap_succ wrap_m1 wrap_nat succ_m1 cast0 succ_pos' succ_ne' succ_bne' ge_iff_le gt_iff_lt if_true if_false
section
structure Pg.rg (p : Pg) : Prop where
  own : 0 ≤ p.owner ∧ p.owner ≤ 3
  len : p.vals.length = 3
  val : ∀ k : Nat, k < 3 → 0 ≤ at' p.vals (k : Int) ∧ at' p.vals (k : Int) ≤ 9
structure Rgs (ps : List Pg) : Prop where
  len : ps.length = 5
  rg : ∀ k : Nat, k < 5 → (at' ps (k : Int)).rg
theorem Rgs.sz {ps : List Pg} (h : Rgs ps) : Sz ps := ⟨h.len, fun k hk => (h.rg k hk).len⟩
theorem Rgs.set {ps : List Pg} (h : Rgs ps) (k : Nat) (p : Pg) (hp : p.rg) : Rgs (ps.set k p) := by
  refine ⟨by simp [h.len], fun j hj => ?_⟩
  by_cases hk : k < ps.length
  · rw [at_set _ _ _ _ hk]
    split
    · exact hp
    · exact h.rg j hj
  · rw [List.set_eq_of_length_le (by omega)]
    exact h.rg j hj
theorem rg_of_ok {p : Pg} (h : p.ok = true) : p.rg := ⟨Pg.ok_own h, Pg.ok_len h, Pg.ok_val h⟩
theorem rgs_of {ps : List Pg} (h : pgsOk ps = true) : Rgs ps := ⟨(pgsOk_iff.1 h).1, fun k hk => rg_of_ok ((pgsOk_iff.1 h).2 k hk)⟩
theorem at_setI (l : List Int) (i j : Nat) (x : Int) (h : i < l.length) : at' (l.set i x) (j : Int) = if j = i then x else at' l (j : Int) := at_set l i j x h
theorem Rc.ok_new {r : Rc} (h : r.ok = true) (hc : chg r.kind = true) : 0 ≤ r.new ∧ r.new ≤ (if r.slot < 0 then 3 else 9) ∧ 0 ≤ r.old ∧ r.old ≤ (if r.slot < 0 then 3 else 9) := by
  unfold Rc.ok Rc.of isIn at h
  unfold chg at hc
  simp only [Bool.and_eq_true, Bool.or_eq_true, decide_eq_true_eq] at h hc
  have h2 := h.2
  by_cases hs : r.slot < 0
  · simp only [hs, if_true] at h2 ⊢
    (repeat' split at h2) <;> first | omega | (simp only [Bool.and_eq_true, decide_eq_true_eq] at h2; omega) | (simp at h2; done)
  · simp only [hs, if_false] at h2 ⊢
    (repeat' split at h2) <;> first | omega | (simp only [Bool.and_eq_true, decide_eq_true_eq] at h2; omega) | (simp at h2; done)
theorem doP_rg {p : Pg} {r : Rc} {n : Int} (h : p.rg) (hr : r.ok = true) (hc : chg r.kind = true) : (doP p r n).rg := by
  obtain ⟨h1, h2, _⟩ := Rc.ok_new hr hc
  obtain ⟨s1, s2⟩ := Rc.ok_slot hr
  unfold doP
  by_cases hs : 0 ≤ r.slot
  · rw [if_pos hs]
    rw [if_neg (by omega)] at h2
    refine ⟨h.own, by simp [h.len], fun k hk => ?_⟩
    simp only
    rw [at_setI _ _ _ _ (by rw [h.len]; omega)]
    split
    · exact ⟨h1, h2⟩
    · exact h.val k hk
  · rw [if_neg hs]
    rw [if_pos (by omega)] at h2
    by_cases h0 : r.new = 0
    · rw [if_pos h0]
      refine ⟨⟨h1, h2⟩, rfl, fun k hk => ?_⟩
      have : k = 0 ∨ k = 1 ∨ k = 2 := by omega
      rcases this with rfl | rfl | rfl <;> simp [at']
    · rw [if_neg h0]
      exact ⟨⟨h1, h2⟩, h.len, h.val⟩
theorem redoTo_rg {ps : List Pg} (h : Rgs ps) {l : List Rc} (hw : Wf l) : ∀ n, n ≤ l.length → Rgs (redoTo ps l n)
  | 0, _ => h
  | n + 1, hn => by
    have ih := redoTo_rg h hw n (by omega)
    have hr := hw.rok n (by omega)
    obtain ⟨m, hm, hp⟩ := Rc.ok_page hr
    rw [redoTo, redo1]
    split
    · rename_i hc
      rw [hp]
      exact ih.set _ _ (doP_rg (ih.rg m (by omega)) hr hc.1)
    · exact ih
theorem redo_lsn_le {ps : List Pg} {l : List Rc} (h : Sz ps) (hw : Wf l) (p : Nat) (hp : p < 5) (b : Int) (hb : (at' ps (p : Int)).lsn ≤ b) : ∀ n, n ≤ l.length → (at' (redoTo ps l n) (p : Int)).lsn ≤ max b n
  | 0, _ => by rw [redoTo]; omega
  | n + 1, hn => by
    have ih := redo_lsn_le h hw p hp b hb n (by omega)
    have hs := redoTo_sz h hw n (by omega)
    obtain ⟨m, hm, hpg⟩ := Rc.ok_page (hw.rok n (by omega))
    rw [redoTo, redo1]
    split
    · rw [hpg, Int.toNat_natCast, at_set _ _ _ _ (by rw [hs.len]; omega)]
      split
      · have : (doP (at' (redoTo ps l n) (m : Int)) (at' l (n : Int)) ((n + 1 : Nat) : Int)).lsn = ((n + 1 : Nat) : Int) := by unfold doP; split <;> rfl
        rw [this]
        omega
      · omega
    · omega
structure Inv (e : Eng) : Prop where
  disk : Rgs e.disk
  mem : Rgs e.mem
  log : logOk e.log = true
  room : e.log.length + needTo e.log 3 ≤ 150
  safe : 0 ≤ e.safe ∧ e.safe ≤ e.log.length
  dl : ∀ k : Nat, k < 5 → 0 ≤ (at' e.disk (k : Int)).lsn ∧ (at' e.disk (k : Int)).lsn ≤ e.safe
  ml : ∀ k : Nat, k < 5 → 0 ≤ (at' e.mem (k : Int)).lsn ∧ (at' e.mem (k : Int)).lsn ≤ e.log.length
theorem Inv.wf {e : Eng} (h : Inv e) : Wf e.log := wf_of h.log
theorem Inv.len {e : Eng} (h : Inv e) : e.log.length ≤ 150 := logOk_len h.log
def Rc.at (r : Rc) (n : Int) : Rc := ⟨r.kind, r.tx, r.page, r.slot, r.old, r.new, n, r.next⟩
def Eng.rc (e : Eng) (r : Rc) : Rc := r.at (lastN e.log r.tx)
def Eng.alog (e : Eng) (r : Rc) : List Rc := e.log ++ [e.rc r]
def Eng.amem (e : Eng) (r : Rc) : List Pg := if chg r.kind = true then e.mem.set r.page.toNat (doP (at' e.mem r.page) (e.rc r) (e.alog r).length) else e.mem
def Eng.fits (e : Eng) (r : Rc) : Bool := decide ((e.alog r).length + needTo (e.alog r) 3 ≤ 150)
def Eng.added (e : Eng) (r : Rc) : Eng := ⟨e.disk, e.amem r, e.alog r, e.safe, e.down⟩
def Eng.add (e : Eng) (r : Rc) : Eng × Bool := if e.fits r = true then (e.added r, true) else (e, false)
theorem alog_len (e : Eng) (r : Rc) : (e.alog r).length = e.log.length + 1 := by simp [Eng.alog]
/-- A record that may be put behind the others. -/
structure Eng.can (e : Eng) (r : Rc) : Prop where
  ok : (e.rc r).ok = true
  next : r.next ≤ e.log.length
  tx : r.next ≤ 0 ∨ (at' e.log (r.next - 1)).tx = r.tx
theorem can_wf {e : Eng} {r : Rc} (hi : Inv e) (h : e.can r) : Wf (e.alog r) := by
  have := hi.len
  have h2 := lastN_le e.log r.tx
  exact wf_app hi.wf (by omega) h.ok (by show (lastN e.log r.tx : Int) ≤ _; omega) h.next
theorem added_inv {e : Eng} {r : Rc} (hi : Inv e) (h : e.can r) (hf : e.fits r = true) : Inv (e.added r) := by
  have hf' : (e.alog r).length + needTo (e.alog r) 3 ≤ 150 := by simpa [Eng.fits] using hf
  have hl := alog_len e r
  have hlog : logOk (e.alog r) = true := logOk_app hi.log (by omega) h.ok rfl h.next h.tx
  obtain ⟨m, hm, hp⟩ := Rc.ok_page h.ok
  have hp' : r.page = (m : Int) := hp
  refine ⟨hi.disk, ?_, hlog, hf', ⟨hi.safe.1, by show e.safe ≤ ((e.alog r).length : Int); have := hi.safe.2; omega⟩, hi.dl, fun k hk => ?_⟩
  · show Rgs (e.amem r)
    unfold Eng.amem
    split
    · rename_i hc
      rw [hp']
      exact hi.mem.set _ _ (doP_rg (hi.mem.rg m (by omega)) h.ok hc)
    · exact hi.mem
  · show 0 ≤ (at' (e.amem r) (k : Int)).lsn ∧ (at' (e.amem r) (k : Int)).lsn ≤ ((e.alog r).length : Int)
    have := hi.ml k hk
    unfold Eng.amem
    split
    · rename_i hc
      rw [hp', Int.toNat_natCast, at_set _ _ _ _ (by rw [hi.mem.len]; omega)]
      split
      · have : (doP (at' e.mem (m : Int)) (e.rc r) ((e.alog r).length : Int)).lsn = ((e.alog r).length : Int) := by unfold doP; split <;> rfl
        rw [this]
        omega
      · omega
    · omega
end
section
def emptyB (p : Pg) : Bool := allFrom (fun k => decide (at' p.vals k = 0)) 0 p.vals.length
def tookB (l : List Rc) (tx page : Int) : Bool := (chain l (lastN l tx)).any fun n => decide ((at' l ((n : Int) - 1)).kind = 2) && decide ((at' l ((n : Int) - 1)).page = page) && decide (0 < (at' l ((n : Int) - 1)).new)
def valsB (vals : List Int) : Bool := allFrom (fun k => isIn (at' vals k) 0 9) 0 vals.length
def ldR (tx page : Int) : Rc := ⟨3, tx, page, 0, 0, 0, 0, 0⟩
def Eng.loadB (e : Eng) (tx page : Int) (vals : List Int) : Bool := mayB e tx page && decide (vals.length = 3) && decide ((at' e.mem page).owner ≠ 0) && emptyB (at' e.mem page) && tookB e.log tx page && valsB vals
def Eng.laid (e : Eng) (tx page : Int) (vals : List Int) : Eng := ⟨e.disk, e.mem.set page.toNat ⟨(e.alog (ldR tx page)).length, (at' e.mem page).owner, vals⟩, e.alog (ldR tx page), e.safe, e.down⟩
def Eng.load (e : Eng) (tx page : Int) (vals : List Int) : Eng × Bool := if e.loadB tx page vals = true then (if e.fits (ldR tx page) = true then (e.laid tx page vals, true) else (e, false)) else (e, false)
def Eng.liveB (e : Eng) (tx : Int) : Bool := !e.down && isIn tx 1 3 && decide (lastN e.log tx ≠ 0)
theorem mayB_iff {e : Eng} {tx page : Int} (h : mayB e tx page = true) : e.down = false ∧ (1 ≤ tx ∧ tx ≤ 3) ∧ (0 ≤ page ∧ page ≤ 4) := by
  unfold mayB isIn at h
  simp only [Bool.and_eq_true, decide_eq_true_eq, Bool.not_eq_true'] at h
  exact ⟨h.1.1.1, h.1.1.2, h.1.2⟩
theorem page_nat {page : Int} (h : 0 ≤ page ∧ page ≤ 4) : ∃ k : Nat, k < 5 ∧ page = (k : Int) := ⟨page.toNat, by omega, by omega⟩
theorem okR_load {tx page prev : Int} (h1 : 1 ≤ tx ∧ tx ≤ 3) (h2 : 0 ≤ page ∧ page ≤ 4) (h6 : 0 ≤ prev ∧ prev ≤ 150) : (Rc.mk 3 tx page 0 0 0 prev 0).ok = true := by
  simp [Rc.ok, isIn, *]
theorem prev_bnd {e : Eng} (hi : Inv e) (tx : Int) : 0 ≤ (lastN e.log tx : Int) ∧ (lastN e.log tx : Int) ≤ 150 := by
  have := lastN_le e.log tx
  have := hi.len
  omega
theorem can_load {e : Eng} (hi : Inv e) {tx page : Int} (h : mayB e tx page = true) : e.can (ldR tx page) := by
  obtain ⟨_, ht, hp⟩ := mayB_iff h
  exact ⟨okR_load ht hp (prev_bnd hi tx), by show (0 : Int) ≤ _; omega, .inl (Int.le_refl 0)⟩
theorem valsB_iff {vals : List Int} (h : valsB vals = true) (k : Nat) (hk : k < vals.length) : 0 ≤ at' vals (k : Int) ∧ at' vals (k : Int) ≤ 9 := by
  unfold valsB at h
  rw [allFrom_iff] at h
  have := h k (Nat.zero_le _) hk
  unfold isIn at this
  simpa using this
theorem load_inv {e : Eng} (hi : Inv e) (tx page : Int) (vals : List Int) : Inv (e.load tx page vals).1 := by
  unfold Eng.load
  split
  · rename_i h
    split
    · rename_i hf
      unfold Eng.loadB at h
      simp only [Bool.and_eq_true, decide_eq_true_eq] at h
      obtain ⟨⟨⟨⟨⟨h1, h2⟩, h3⟩, h4⟩, h5⟩, h6⟩ := h
      obtain ⟨_, ht, hp⟩ := mayB_iff h1
      obtain ⟨k, hk, rfl⟩ := page_nat hp
      have ha := added_inv hi (can_load hi h1) hf
      have hl := alog_len e (ldR tx (k : Int))
      refine ⟨ha.disk, hi.mem.set _ _ ⟨(hi.mem.rg k hk).own, h2, fun j hj => valsB_iff h6 j (by omega)⟩, ha.log, ha.room, ha.safe, ha.dl, fun j hj => ?_⟩
      show 0 ≤ (at' (e.mem.set (k : Int).toNat _) (j : Int)).lsn ∧ (at' (e.mem.set (k : Int).toNat _) (j : Int)).lsn ≤ ((e.alog (ldR tx (k : Int))).length : Int)
      have := hi.ml j hj
      rw [Int.toNat_natCast, at_set _ _ _ _ (by rw [hi.mem.len]; omega)]
      split
      · simp only; omega
      · omega
    · exact hi
  · exact hi
theorem chain_memP {l : List Rc} (hw : Wf l) {n : Nat} : ∀ m, m ≤ l.length → n ∈ chain l m → ∃ b, n = b + 1 ∧ b < m := by
  intro m
  induction m using Nat.strongRecOn with
  | _ m ih =>
    intro hm h
    rcases m with _ | m
    · rw [chain_zero] at h; simp at h
    · obtain ⟨p, hp, e⟩ := hw.prev m (by omega)
      rw [chain_succ e hp] at h
      rcases List.mem_cons.1 h with rfl | h
      · exact ⟨m, rfl, by omega⟩
      · obtain ⟨b, hb, hlt⟩ := ih p (by omega) (by omega) h
        exact ⟨b, hb, by omega⟩
/-- In a play there was always room. -/
def Roomy (l : List Rc) : Prop := ∀ n, n ≤ l.length → n + needTo (l.take n) 3 ≤ 150
end
section
structure Ev where
  kind : Int
  tx : Int
  page : Int
  slot : Int
  n : Int
  vals : List Int
structure PInv (e : Eng) : Prop extends Inv e where
  hist : Roomy e.log
/-- What is ok is as it must be. -/
theorem sameP_lsn {p q : Pg} (h : sameP p q = true) : p.lsn = q.lsn ∧ p.owner = q.owner := by
  unfold sameP at h
  simp only [Bool.and_eq_true, beq_iff_eq] at h
  exact ⟨h.1.1, h.1.2⟩
theorem pageTo_le (l : List Rc) (page : Int) : ∀ n, pageTo l page n ≤ n
  | 0 => Nat.le_refl _
  | n + 1 => by
    have := pageTo_le l page n
    rw [pageTo]
    split <;> omega
theorem Pg.ok_lsn {p : Pg} (h : p.ok = true) : 0 ≤ p.lsn ∧ p.lsn ≤ 150 := by
  unfold Pg.ok isIn at h
  simp only [Bool.and_eq_true, decide_eq_true_eq] at h
  exact h.1.1.1
structure OkP (e : Eng) : Prop where
  disk : pgsOk e.disk = true
  mem : pgsOk e.mem = true
  log : logOk e.log = true
  safe : 0 ≤ e.safe ∧ e.safe ≤ e.log.length
  room : e.log.length + needTo e.log 3 ≤ 150
  pre : ∀ k, e.safe.toNat ≤ k → k < e.log.length + 1 → preB e k = true
  pg : ∀ k, k < 5 → pgB e k = true
theorem okE_iff {e : Eng} : okE e = true ↔ OkP e := by
  unfold okE isIn
  simp only [Bool.and_eq_true, decide_eq_true_eq, allFrom_iff]
  constructor
  · rintro ⟨⟨⟨⟨⟨⟨h1, h2⟩, h3⟩, h4⟩, h5⟩, h6⟩, h7⟩
    exact ⟨h1, h2, h3, h4, h5, h6, fun k hk => h7 k (Nat.zero_le _) hk⟩
  · intro h
    exact ⟨⟨⟨⟨⟨⟨h.disk, h.mem⟩, h.log⟩, h.safe⟩, h.room⟩, h.pre⟩, fun k _ hk => h.pg k hk⟩
theorem pgB_iff {e : Eng} {p : Nat} : pgB e p = true ↔ (at' e.disk (p : Int)).lsn ≤ e.safe ∧ (if e.down = true then sameP (at' e.mem (p : Int)) (at' e.disk (p : Int)) else memB e p) = true ∧ heldTo e.log p 3 ≤ 1 := by
  unfold pgB
  simp only [Bool.and_eq_true, decide_eq_true_eq]
  exact and_assoc
theorem inv_of_ok {e : Eng} (h : okE e = true) : Inv e := by
  have hk := okE_iff.1 h
  have hd := rgs_of hk.disk
  have hm := rgs_of hk.mem
  have hw := wf_of hk.log
  refine ⟨hd, hm, hk.log, hk.room, hk.safe, fun k hk5 => ?_, fun k hk5 => ?_⟩
  · have h1 := Pg.ok_lsn ((pgsOk_iff.1 hk.disk).2 k hk5)
    exact ⟨h1.1, (pgB_iff.1 (hk.pg k hk5)).1⟩
  · have h1 := Pg.ok_lsn ((pgsOk_iff.1 hk.mem).2 k hk5)
    obtain ⟨h2, h3, _⟩ := pgB_iff.1 (hk.pg k hk5)
    refine ⟨h1.1, ?_⟩
    have hs := hk.safe
    have hr := redo_lsn_le hd.sz hw k hk5 e.safe h2 e.log.length (Nat.le_refl _)
    have hp := pageTo_le e.log (k : Int) e.log.length
    split at h3
    · rw [(sameP_lsn h3).1]; omega
    · unfold memB at h3
      split at h3
      · unfold freshB at h3
        simp only [Bool.and_eq_true, beq_iff_eq] at h3
        rw [h3.2.1]
        omega
      · rw [(sameP_lsn h3).1]
        unfold Eng.redo
        omega
end
end Go.Proofs.YtfcnajhanjhonaaGreat.Am
end
section
set_option linter.unusedVariables false
set_option linter.unusedSimpArgs false
set_option maxRecDepth 100000
set_option maxHeartbeats 8000000
namespace Go.Proofs.YtfcnajhanjhonaaGreat.Am
open Go Go.RowKit Go.Proofs
attribute [local go_sem_proc] Nat.reduceAdd Nat.reduceSub Nat.reduceMul Nat.reduceLT Nat.reduceLeDiff Nat.reduceEqDiff Int.reduceBEq Int.reduceBNe Int.reduceNeg Int.reduceSub Int.reduceLE Int.reduceLT
attribute [local go_sem_proc ↓] reduceIte
attribute [local congr] opsP_congr codeP_congr AWP_congr afterR_congr preP_congr afterPre_congr gPre_congr gOps_congr condP_congr stepE_congr
attribute [local go_sem] ty_int ty_bool ty_str ty_u8 ty_ints ty_bytes ty_page ty_pages ty_lpage ty_lpages ty_rec ty_recs ty_lrec ty_lrecs ty_eng ty_leng
attribute [local go_sem] true_and and_true beq_true' beq_false' toNat_cast Int.natCast_nonneg Bool.not_not Bool.not_true Bool.not_false decide_true decide_false Bool.or_false Bool.false_or Bool.or_true Bool.true_or Bool.and_false Bool.false_and Nat.zero_add Int.toNat_of_nonneg wrap_succ wrap_m1 wrap_nat succ_m1 cast0 succ_pos' succ_ne' succ_bne' ge_iff_le gt_iff_lt if_true if_false
section
theorem EngineOkS_fn (e : Eng) (hd : e.disk.length < 4611686018427387904) (hm : e.mem.length < 4611686018427387904) (hl : e.log.length < 4611686018427387904) : Fn1 Tryz.prog 21 [eA e] (Bo (okE e)) := by
  refine fn1_of Tryz.func21 rfl rfl ?_
  by_cases h1 : pgsOk e.disk = true
  rotate_left
  · simp -implicitDefEqProofs only [go_sem, Tryz.f21, h1]
    (repeat' (first | ((with_reducible first | refine gon ?_ ?_ | refine gos ?_ ?_ | refine cdn ?_ ?_ | refine cds ?_ ?_ | refine gpn ?_ ?_ | refine gps ?_ ?_) <;> intro h <;> (try simp only [dt, df, gi, gt] at h) <;> try simp -implicitDefEqProofs only [go_sem, *]) | ((with_reducible refine And.intro ?_ ?_); (· first | omega | (simp only [List.length_take]; omega)); try simp -implicitDefEqProofs only [go_sem, *]) | ((with_reducible refine enter_pu (l11Good_fn _ hd) ?_ ?_ ?_); (· rfl); (· rfl); try simp -implicitDefEqProofs only [go_sem, *])))
    exact fin_pu (by simp [okE, h1]) rfl
  by_cases h2 : pgsOk e.mem = true
  rotate_left
  · simp -implicitDefEqProofs only [go_sem, Tryz.f21, h1, h2]
    (repeat' (first | ((with_reducible first | refine gon ?_ ?_ | refine gos ?_ ?_ | refine cdn ?_ ?_ | refine cds ?_ ?_ | refine gpn ?_ ?_ | refine gps ?_ ?_) <;> intro h <;> (try simp only [dt, df, gi, gt] at h) <;> try simp -implicitDefEqProofs only [go_sem, *]) | ((with_reducible refine And.intro ?_ ?_); (· first | omega | (simp only [List.length_take]; omega)); try simp -implicitDefEqProofs only [go_sem, *]) | first | ((with_reducible refine enter_pu (l11Good_fn _ hd) ?_ ?_ ?_); (· rfl); (· rfl); try simp -implicitDefEqProofs only [go_sem, *]) | ((with_reducible refine enter_pu (l11Good_fn _ hm) ?_ ?_ ?_); (· rfl); (· rfl); try simp -implicitDefEqProofs only [go_sem, *])))
    exact fin_pu (by simp [okE, h2]) rfl
  by_cases h3 : logOk e.log = true
  rotate_left
  · simp -implicitDefEqProofs only [go_sem, Tryz.f21, h1, h2, h3]
    (repeat' (first | ((with_reducible first | refine gon ?_ ?_ | refine gos ?_ ?_ | refine cdn ?_ ?_ | refine cds ?_ ?_ | refine gpn ?_ ?_ | refine gps ?_ ?_) <;> intro h <;> (try simp only [dt, df, gi, gt] at h) <;> try simp -implicitDefEqProofs only [go_sem, *]) | ((with_reducible refine And.intro ?_ ?_); (· first | omega | (simp only [List.length_take]; omega)); try simp -implicitDefEqProofs only [go_sem, *]) | first | ((with_reducible refine enter_pu (l11Good_fn _ hd) ?_ ?_ ?_); (· rfl); (· rfl); try simp -implicitDefEqProofs only [go_sem, *]) | ((with_reducible refine enter_pu (l11Good_fn _ hm) ?_ ?_ ?_); (· rfl); (· rfl); try simp -implicitDefEqProofs only [go_sem, *]) | ((with_reducible refine enter_pu (LogOk_fn _ hl) ?_ ?_ ?_); (· rfl); (· rfl); try simp -implicitDefEqProofs only [go_sem, *])))
    exact fin_pu (by simp [okE, h3]) rfl
  by_cases h4 : isIn e.safe 0 e.log.length = true
  rotate_left
  · simp -implicitDefEqProofs only [go_sem, Tryz.f21, h1, h2, h3, h4]
    (repeat' (first | ((with_reducible first | refine gon ?_ ?_ | refine gos ?_ ?_ | refine cdn ?_ ?_ | refine cds ?_ ?_ | refine gpn ?_ ?_ | refine gps ?_ ?_) <;> intro h <;> (try simp only [dt, df, gi, gt] at h) <;> try simp -implicitDefEqProofs only [go_sem, *]) | ((with_reducible refine And.intro ?_ ?_); (· first | omega | (simp only [List.length_take]; omega)); try simp -implicitDefEqProofs only [go_sem, *]) | first | ((with_reducible refine enter_pu (l11Good_fn _ hd) ?_ ?_ ?_); (· rfl); (· rfl); try simp -implicitDefEqProofs only [go_sem, *]) | ((with_reducible refine enter_pu (l11Good_fn _ hm) ?_ ?_ ?_); (· rfl); (· rfl); try simp -implicitDefEqProofs only [go_sem, *]) | ((with_reducible refine enter_pu (LogOk_fn _ hl) ?_ ?_ ?_); (· rfl); (· rfl); try simp -implicitDefEqProofs only [go_sem, *]) | ((with_reducible refine enter_pu (l6In_fn _ _ _) ?_ ?_ ?_); (· rfl); (· rfl); try simp -implicitDefEqProofs only [go_sem, *])))
    exact fin_pu (by simp [okE, h4]) rfl
  have hw := wf_of h3
  have hsz := sz_of h1
  have hlen := hw.len
  have hs0 : 0 ≤ e.safe ∧ e.safe ≤ e.log.length := by simpa [isIn] using h4
  have hnd := needTo_le e.log hw 3
  have hadd : IntKind.i64.wrap ((e.log.length : Int) + (needTo e.log 3 : Int)) = (e.log.length : Int) + (needTo e.log 3 : Int) := wrap_ok (by omega) (by omega)
  by_cases h5 : (150 : Int) < (e.log.length : Int) + (needTo e.log 3 : Int)
  · simp -implicitDefEqProofs only [go_sem, Tryz.f21, h1, h2, h3, h4]
    (repeat' (first | ((with_reducible first | refine gon ?_ ?_ | refine gos ?_ ?_ | refine cdn ?_ ?_ | refine cds ?_ ?_ | refine gpn ?_ ?_ | refine gps ?_ ?_) <;> intro h <;> (try simp only [dt, df, gi, gt] at h) <;> try simp -implicitDefEqProofs only [go_sem, *]) | ((with_reducible refine And.intro ?_ ?_); (· first | omega | (simp only [List.length_take]; omega)); try simp -implicitDefEqProofs only [go_sem, *]) | first | ((with_reducible refine enter_pu (l11Good_fn _ hd) ?_ ?_ ?_); (· rfl); (· rfl); try simp -implicitDefEqProofs only [go_sem, *]) | ((with_reducible refine enter_pu (l11Good_fn _ hm) ?_ ?_ ?_); (· rfl); (· rfl); try simp -implicitDefEqProofs only [go_sem, *]) | ((with_reducible refine enter_pu (LogOk_fn _ hl) ?_ ?_ ?_); (· rfl); (· rfl); try simp -implicitDefEqProofs only [go_sem, *]) | ((with_reducible refine enter_pu (l6In_fn _ _ _) ?_ ?_ ?_); (· rfl); (· rfl); try simp -implicitDefEqProofs only [go_sem, *]) | ((with_reducible refine enter_fn (l11Redo_own _ _ hsz hw) ?_ ?_); (· rfl); try simp -implicitDefEqProofs only [go_sem, *]) | ((with_reducible refine cp_draw (id := 4) 8 mixed ?_ ?_ ?_); (· decide +kernel); (· first | (simp only [List.all_cons, List.all_nil, List.length_cons, List.length_nil, Nat.reduceAdd, Nat.reduceLT, decide_true, Bool.and_true, Bool.and_self]; done) | rfl); try simp -implicitDefEqProofs only [go_sem, *]) | ((with_reducible refine pre_enter _ (det_pu (l11Need_fn _ hw) ?_ ?_) ?_ ?_); (· rfl); (· rfl); (· rfl); try simp -implicitDefEqProofs only [go_sem, *])))
    all_goals exact fin_pu (by simp [okE, show ¬ e.log.length + needTo e.log 3 ≤ 150 by omega]) rfl
  have hcs : ((e.safe.toNat : Nat) : Int) = e.safe := by omega
  simp -implicitDefEqProofs only [go_sem, Tryz.f21, h1, h2, h3, h4]
  (repeat' (first | ((with_reducible first | refine gon ?_ ?_ | refine gos ?_ ?_ | refine cdn ?_ ?_ | refine cds ?_ ?_ | refine gpn ?_ ?_ | refine gps ?_ ?_) <;> intro h <;> (try simp only [dt, df, gi, gt] at h) <;> try simp -implicitDefEqProofs only [go_sem, *]) | ((with_reducible refine And.intro ?_ ?_); (· first | omega | (simp only [List.length_take]; omega)); try simp -implicitDefEqProofs only [go_sem, *]) | first | ((with_reducible refine enter_pu (l11Good_fn _ hd) ?_ ?_ ?_); (· rfl); (· rfl); try simp -implicitDefEqProofs only [go_sem, *]) | ((with_reducible refine enter_pu (l11Good_fn _ hm) ?_ ?_ ?_); (· rfl); (· rfl); try simp -implicitDefEqProofs only [go_sem, *]) | ((with_reducible refine enter_pu (LogOk_fn _ hl) ?_ ?_ ?_); (· rfl); (· rfl); try simp -implicitDefEqProofs only [go_sem, *]) | ((with_reducible refine enter_pu (l6In_fn _ _ _) ?_ ?_ ?_); (· rfl); (· rfl); try simp -implicitDefEqProofs only [go_sem, *]) | ((with_reducible refine enter_fn (l11Redo_own _ _ hsz hw) ?_ ?_); (· rfl); try simp -implicitDefEqProofs only [go_sem, *]) | ((with_reducible refine cp_draw (id := 4) 8 mixed ?_ ?_ ?_); (· decide +kernel); (· first | (simp only [List.all_cons, List.all_nil, List.length_cons, List.length_nil, Nat.reduceAdd, Nat.reduceLT, decide_true, Bool.and_true, Bool.and_self]; done) | rfl); try simp -implicitDefEqProofs only [go_sem, *]) | ((with_reducible refine pre_enter _ (det_pu (l11Need_fn _ hw) ?_ ?_) ?_ ?_); (· rfl); (· rfl); (· rfl); try simp -implicitDefEqProofs only [go_sem, *])))
  refine cp_loop (fun n : Nat => ⟨(eA e :: .ref 0 5 0 0 :: Bo false :: .own 1 3 0 5 :: I (n : Int) :: .any :: .any :: .any :: .any :: .any :: .any :: .any :: .any :: .any :: .any :: .any :: .any :: .any :: .any :: .any :: .any :: .any :: .any :: .any :: .any :: .any :: .any :: .any :: .any :: .any :: .any :: .any :: .any :: .any :: .any :: .any :: .any :: .any :: .any :: .any :: .any :: .any :: .any :: .any :: .any :: .any :: .any :: .any :: .any :: .any :: .any :: .any :: .any :: .any :: .any :: .any :: .any :: .any :: .any :: .any :: .any :: .any :: .any :: .any :: .any :: .any :: .any :: .any :: .any :: .any :: .any :: .any :: .any :: .any :: .any :: .any :: .any :: .any :: .any :: .any :: .any :: .any :: .any :: .any :: .any :: .any :: .any :: .any :: .any :: .any :: .any :: .any :: .any :: .any :: .any :: .any :: .any :: .any :: .any :: .any :: .any :: .any :: .any :: .any :: .any :: .any :: .any :: .any :: .any :: .any :: .any :: .any :: .any :: .any :: .any :: .any :: .any :: .any :: .any :: .any :: .any :: .any :: .any :: .any :: .any :: .any :: .any :: .any :: .any :: .any :: .any :: .any :: .any :: .any :: .any :: .any :: .any :: .any :: .any :: .any :: .any :: .any :: .any :: .any :: .any :: .any :: .any :: .any :: .any :: .any :: .any :: .any :: .any :: .any :: .any :: .any :: .any :: .any :: .any :: .any :: .any :: .any :: .any :: .any :: .any :: .any :: .any :: .any :: .any :: .any :: .any :: .any :: .any :: .any :: .any :: .any :: .any :: .any :: .any :: .any :: .any :: .any :: .any :: .any :: .any :: .any :: .any :: .any :: .any :: .any :: .any :: .any :: .any :: .any :: .any :: []), [some ⟨5, [eA e]⟩, some ⟨3, e.redo.map pA⟩], []⟩) (fun n => n ≤ e.log.length + 1 ∧ (n = e.log.length + 1 → pgsOk e.redo = true) ∧ (allFrom (preB e) n (e.log.length + 1) && allFrom (pgB e) 0 5) = okE e) (fun n => e.log.length + 1 - n) e.safe.toNat ?_ ?_ ?_
  · exact ⟨by omega, by omega, by simp [okE, h1, h2, h3, h4, show e.log.length + needTo e.log 3 ≤ 150 by omega]⟩
  · simp only [hcs]
    refine wk_tm ?_; repeat (first | exact WL.nil | (with_reducible refine WL.any _ _ _ ?_) | (with_reducible refine WL.same _ _ _ ?_) | (refine WL.eq _ _ _ _ rfl ?_))
  · clear hcs
    rintro n ⟨hn, hrk, hg⟩
    by_cases hnl : n < e.log.length + 1
    · have hnl' : (n : Int) ≤ (e.log.length : Int) := by omega
      have hb : n < 4611686018427387904 := by omega
      have hwt := hw.take n
      have htl : (e.log.take n).length = n := by rw [List.length_take]; omega
      have hrd := l11Redo_own e.disk (e.log.take n) hsz hwt
      rw [htl, redoTo_take _ _ _ _ (Nat.le_refl _)] at hrd
      have hrs := redoTo_sz hsz hw n (by omega)
      have hr5 := hrs.len
      have hgd := l11Good_fn (redoTo e.disk e.log n) (by omega)
      have hun := l11Undone_fn (redoTo e.disk e.log n) (e.log.take n) ⟨5, [eA e]⟩ ⟨3, e.redo.map pA⟩ hrs hwt
      rw [allFrom_lt hnl] at hg
      clear hrk
      clear hwt htl
      simp -implicitDefEqProofs only [go_sem, hnl']
      ((with_reducible refine cp_draw2 (id := 9) 6 2 mixed ?_ ?_ ?_ ?_); (· decide +kernel); (· first | (simp only [List.all_cons, List.all_nil, List.length_cons, List.length_nil, Nat.reduceAdd, Nat.reduceLT, decide_true, Bool.and_true, Bool.and_self]; done) | rfl); (· rfl); try simp -implicitDefEqProofs only [go_sem, List.append_nil, *])
      ((with_reducible refine exp_one 6 ?_ ?_); (· decide +kernel); try simp -implicitDefEqProofs only [go_sem, *])
      (repeat' (first | ((with_reducible first | refine gon ?_ ?_ | refine gos ?_ ?_ | refine cdn ?_ ?_ | refine cds ?_ ?_ | refine gpn ?_ ?_ | refine gps ?_ ?_) <;> intro h <;> (try simp only [dt, df, gi, gt] at h) <;> try simp -implicitDefEqProofs only [go_sem, *]) | ((with_reducible refine And.intro ?_ ?_); (· first | omega | (simp only [List.length_take]; omega)); try simp -implicitDefEqProofs only [go_sem, *]) | ((with_reducible refine enter_fn (hrd) ?_ ?_); (· rfl); try simp -implicitDefEqProofs only [go_sem, *])))
      ((with_reducible refine exp_one 7 ?_ ?_); (· decide +kernel); try simp -implicitDefEqProofs only [go_sem, *])
      ((with_reducible refine exp_end ?_ ?_); (· decide +kernel); try simp -implicitDefEqProofs only [go_sem, *])
      refine enter_own hgd (.cons _ _ _ _ (.of1 _ _ (.of0 _ _ (arg0_p rfl hr5.symm))) .nil) rfl rfl ?_
      rcases hgo : pgsOk (redoTo e.disk e.log n) with _ | _
      · simp -implicitDefEqProofs only [go_sem, hgo]
        refine fin_pu ?_ rfl
        rw [← hg, preB, hgo]
        rfl
      · simp -implicitDefEqProofs only [go_sem, hgo]
        (repeat' (first | ((with_reducible first | refine gon ?_ ?_ | refine gos ?_ ?_ | refine cdn ?_ ?_ | refine cds ?_ ?_ | refine gpn ?_ ?_ | refine gps ?_ ?_) <;> intro h <;> (try simp only [dt, df, gi, gt] at h) <;> try simp -implicitDefEqProofs only [go_sem, *]) | ((with_reducible refine And.intro ?_ ?_); (· first | omega | (simp only [List.length_take]; omega)); try simp -implicitDefEqProofs only [go_sem, *]) | fail))
        refine enter_keep hun ?_
        rintro r S' ⟨qs, rfl, rfl⟩
        rcases huo : undoneB (redoTo e.disk e.log n) (e.log.take n) with _ | _
        · simp -implicitDefEqProofs only [go_sem, huo, hb]
          refine fin_pu ?_ rfl
          rw [← hg, preB, hgo, huo]
          rfl
        · simp -implicitDefEqProofs only [go_sem, huo, hb]
          have hlast : n + 1 = e.log.length + 1 → pgsOk e.redo = true := fun hh => by
            obtain rfl : n = e.log.length := by omega
            exact hgo
          refine ⟨n + 1, ⟨by omega, hlast, by rw [← hg, preB, hgo, huo]; rfl⟩, by omega, ?_⟩
          refine WkN.trans (wk_tm ?_) (wk_trunc (S := [some ⟨5, [eA e]⟩, some ⟨3, e.redo.map pA⟩]) (Nat.le_refl _) rfl (by first | rfl | (simp only [sltB, List.all_cons, List.all_nil, slt_p, slt_I, slt_r, Bool.and_true]; done) | (simp only [sltB, List.all_cons, List.all_nil, slt_p, slt_I, slt_r, Bool.and_true]; rfl))); repeat (first | exact WL.nil | (with_reducible refine WL.any _ _ _ ?_) | (with_reducible refine WL.same _ _ _ ?_) | (refine WL.eq _ _ _ _ rfl ?_))
    · have hnl' : ¬ (n : Int) ≤ (e.log.length : Int) := by omega
      rw [allFrom_ge hnl, Bool.true_and] at hg
      have hrk := hrk (by omega)
      simp -implicitDefEqProofs only [go_sem, hnl']
      refine cp_loop (fun p : Nat => ⟨(eA e :: .ref 0 5 0 0 :: Bo false :: .own 1 3 0 5 :: .any :: .any :: I (p : Int) :: .any :: .any :: .any :: .any :: .any :: .any :: .any :: .any :: .any :: .any :: .any :: .any :: .any :: .any :: .any :: .any :: .any :: .any :: .any :: .any :: .any :: .any :: .any :: .any :: .any :: .any :: .any :: .any :: .any :: .any :: .any :: .any :: .any :: .any :: .any :: .any :: .any :: .any :: .any :: .any :: .any :: .any :: .any :: .any :: .any :: .any :: .any :: .any :: .any :: .any :: .any :: .any :: .any :: .any :: .any :: .any :: .any :: .any :: .any :: .any :: .any :: .any :: .any :: .any :: .any :: .any :: .any :: .any :: .any :: .any :: .any :: .any :: .any :: .any :: .any :: .any :: .any :: .any :: .any :: .any :: .any :: .any :: .any :: .any :: .any :: .any :: .any :: .any :: .any :: .any :: .any :: .any :: .any :: .any :: .any :: .any :: .any :: .any :: .any :: .any :: .any :: .any :: .any :: .any :: .any :: .any :: .any :: .any :: .any :: .any :: .any :: .any :: .any :: .any :: .any :: .any :: .any :: .any :: .any :: .any :: .any :: .any :: .any :: .any :: .any :: .any :: .any :: .any :: .any :: .any :: .any :: .any :: .any :: .any :: .any :: .any :: .any :: .any :: .any :: .any :: .any :: .any :: .any :: .any :: .any :: .any :: .any :: .any :: .any :: .any :: .any :: .any :: .any :: .any :: .any :: .any :: .any :: .any :: .any :: .any :: .any :: .any :: .any :: .any :: .any :: .any :: .any :: .any :: .any :: .any :: .any :: .any :: .any :: .any :: .any :: .any :: .any :: .any :: .any :: .any :: .any :: .any :: .any :: .any :: .any :: .any :: .any :: .any :: []), [some ⟨5, [eA e]⟩, some ⟨3, e.redo.map pA⟩], []⟩) (fun p => p ≤ 5 ∧ allFrom (pgB e) p 5 = okE e) (fun p => 5 - p) 0 ?_ ?_ ?_
      · exact ⟨by omega, hg⟩
      · refine wk_tm ?_; repeat (first | exact WL.nil | (with_reducible refine WL.any _ _ _ ?_) | (with_reducible refine WL.same _ _ _ ?_) | (refine WL.eq _ _ _ _ rfl ?_))
      · clear hg
        rintro p ⟨hp, hg⟩
        by_cases hp5 : p < 5
        · have hp5' : (p : Int) < 5 := by omega
          rw [allFrom_lt hp5] at hg
          simp -implicitDefEqProofs only [go_sem, hp5']
          have hm5 := (sz_of h2).len
          have hd5 := hsz.len
          have hrs := redoTo_sz hsz hw e.log.length (Nat.le_refl _)
          have hr5 : e.redo.length = 5 := hrs.len
          have hpm := (pgsOk_iff.1 h2).2 p hp5
          have hpd := (pgsOk_iff.1 h1).2 p hp5
          have hpr := (pgsOk_iff.1 hrk).2 p hp5
          have hs1 := l11Same_ok _ _ hpm hpd
          have hs2 := l11Same_ok _ _ hpm hpr
          have hfr : ∀ d : Bool, Fn1 Tryz.prog 69 [.agg [pgs e.disk, pgs e.mem, recs e.log, I e.safe, Bo d], I p] (Bo (freshB e p)) := fun d => l11Fresh_fn ⟨e.disk, e.mem, e.log, e.safe, d⟩ p hp5 h2 h1 hl
          have hld := l11Loaded_fn e.log p hw
          have hq : Hid (sameP (at' e.mem (p : Int)) (at' e.redo (p : Int)) = true → ((at' e.mem (p : Int)).lsn = (at' e.redo (p : Int)).lsn ∧ (at' e.mem (p : Int)).owner = (at' e.redo (p : Int)).owner) ∧ (at' e.disk (p : Int)).lsn ≤ (at' e.redo (p : Int)).lsn) := fun hh => by
            unfold sameP at hh
            simp only [Bool.and_eq_true, beq_iff_eq] at hh
            exact ⟨hh.1, redo_lsn hsz hw p hp5 _ (Nat.le_refl _)⟩
          clear hpm hpd hpr h1 h2 h3 h4 hadd h5 hrk hrs
          ((with_reducible refine cp_draw (id := 15) 52 mixed ?_ ?_ ?_); (· decide +kernel); (· first | (simp only [List.all_cons, List.all_nil, List.length_cons, List.length_nil, Nat.reduceAdd, Nat.reduceLT, decide_true, Bool.and_true, Bool.and_self]; done) | rfl); try simp -implicitDefEqProofs only [go_sem, *])
          (repeat' (first | ((with_reducible first | refine gon ?_ ?_ | refine gos ?_ ?_ | refine cdn ?_ ?_ | refine cds ?_ ?_ | refine gpn ?_ ?_ | refine gps ?_ ?_) <;> intro h <;> (try simp only [dt, df, gi, gt] at h) <;> try simp -implicitDefEqProofs only [go_sem, *]) | ((with_reducible refine And.intro ?_ ?_); (· first | omega | (simp only [List.length_take]; omega)); try simp -implicitDefEqProofs only [go_sem, *]) | first | ((with_reducible refine pre_enter _ (det_pu (hs1) ?_ ?_) ?_ ?_); (· rfl); (· rfl); (· rfl); try simp -implicitDefEqProofs only [go_sem, *]) | ((with_reducible refine pre_enter _ (det_pu (hs2) ?_ ?_) ?_ ?_); (· rfl); (· rfl); (· rfl); try simp -implicitDefEqProofs only [go_sem, *]) | ((with_reducible refine pre_enter _ (det_pu (hld) ?_ ?_) ?_ ?_); (· rfl); (· rfl); (· rfl); try simp -implicitDefEqProofs only [go_sem, *]) | ((with_reducible refine pre_enter _ (det_pu (hfr _) ?_ ?_) ?_ ?_); (· rfl); (· rfl); (· rfl); try simp -implicitDefEqProofs only [go_sem, *]) | ((with_reducible refine cp_draw (id := 17) 51 mixed ?_ ?_ ?_); (· decide +kernel); (· first | (simp only [List.all_cons, List.all_nil, List.length_cons, List.length_nil, Nat.reduceAdd, Nat.reduceLT, decide_true, Bool.and_true, Bool.and_self]; done) | rfl); try simp -implicitDefEqProofs only [go_sem, *])))
          all_goals first
            | (exfalso; have hq := hq.out (by assumption); clear hg; simp_all; done)
            | (exfalso; have hq := hq.out (by assumption); clear hg; simp_all; omega)
            | (refine fin_pu ?_ rfl
               refine pgB_leaf hg ?_
               unfold pgB memB
               clear hg
               simp_all
               done)
            | (refine fin_pu ?_ rfl
               refine pgB_leaf hg ?_
               unfold pgB
               rw [show decide ((at' e.disk (p : Int)).lsn ≤ e.safe) = false by simp; omega]
               rfl)
            | (have hpg : pgB e p = decide (heldTo e.log p 3 ≤ 1) := by (unfold pgB memB; clear hg; simp_all)
               rw [hpg] at hg
               clear hpg
               refine cp_loop (fun t : Nat => ⟨(eA e :: .ref 0 5 0 0 :: Bo false :: .own 1 3 0 5 :: .any :: .any :: I (p : Int) :: I ((heldTo e.log p t : Nat) : Int) :: I ((t + 1 : Nat) : Int) :: .any :: .any :: .any :: .any :: .any :: .any :: .any :: .any :: .any :: .any :: .any :: .any :: .any :: .any :: .any :: .any :: .any :: .any :: .any :: .any :: .any :: .any :: .any :: .any :: .any :: .any :: .any :: .any :: .any :: .any :: .any :: .any :: .any :: .any :: .any :: .any :: .any :: .any :: .any :: .any :: .any :: .any :: .any :: .any :: .any :: .any :: .any :: .any :: .any :: .any :: .any :: .any :: .any :: .any :: .any :: .any :: .any :: .any :: .any :: .any :: .any :: .any :: .any :: .any :: .any :: .any :: .any :: .any :: .any :: .any :: .any :: .any :: .any :: .any :: .any :: .any :: .any :: .any :: .any :: .any :: .any :: .any :: .any :: .any :: .any :: .any :: .any :: .any :: .any :: .any :: .any :: .any :: .any :: .any :: .any :: .any :: .any :: .any :: .any :: .any :: .any :: .any :: .any :: .any :: .any :: .any :: .any :: .any :: .any :: .any :: .any :: .any :: .any :: .any :: .any :: .any :: .any :: .any :: .any :: .any :: .any :: .any :: .any :: .any :: .any :: .any :: .any :: .any :: .any :: .any :: .any :: .any :: .any :: .any :: .any :: .any :: .any :: .any :: .any :: .any :: .any :: .any :: .any :: .any :: .any :: .any :: .any :: .any :: .any :: .any :: .any :: .any :: .any :: .any :: .any :: .any :: .any :: .any :: .any :: .any :: .any :: .any :: .any :: .any :: .any :: .any :: .any :: .any :: .any :: .any :: .any :: .any :: .any :: .any :: .any :: .any :: .any :: .any :: .any :: .any :: .any :: .any :: .any :: .any :: .any :: .any :: []), [some ⟨5, [eA e]⟩, some ⟨3, e.redo.map pA⟩], []⟩) (fun t => t ≤ 3) (fun t => 3 - t) 0 ?_ ?_ ?_
               · simp
               · refine wk_tm ?_; repeat (first | exact WL.nil | (with_reducible refine WL.any _ _ _ ?_) | (with_reducible refine WL.same _ _ _ ?_) | (refine WL.eq _ _ _ _ rfl ?_))
               · intro t ht
                 have hbt : t + 1 < 4611686018427387904 := by omega
                 have hhb := heldTo_le e.log p t
                 have hbh : heldTo e.log p t < 4611686018427387904 := by omega
                 have hbp : p < 4611686018427387904 := by omega
                 by_cases ht3 : t < 3
                 · have ht' : ((t + 1 : Nat) : Int) ≤ 3 := by omega
                   rcases hh : hasIn e.log ((t + 1 : Nat) : Int) p with _ | _
                   · simp -implicitDefEqProofs only [go_sem, ht']
                     (repeat' (first | ((with_reducible first | refine gon ?_ ?_ | refine gos ?_ ?_ | refine cdn ?_ ?_ | refine cds ?_ ?_ | refine gpn ?_ ?_ | refine gps ?_ ?_) <;> intro h <;> (try simp only [dt, df, gi, gt] at h) <;> try simp -implicitDefEqProofs only [go_sem, *]) | ((with_reducible refine And.intro ?_ ?_); (· first | omega | (simp only [List.length_take]; omega)); try simp -implicitDefEqProofs only [go_sem, *]) | ((with_reducible refine enter_pu (l3Has_fn e.log _ _ hw) ?_ ?_ ?_); (· rfl); (· rfl); try simp -implicitDefEqProofs only [go_sem, *])))
                     refine ⟨t + 1, by omega, by omega, ?_⟩
                     rw [show heldTo e.log p (t + 1) = heldTo e.log p t by rw [heldTo, hh]; simp]
                     refine wk_tm ?_; repeat (first | exact WL.nil | (with_reducible refine WL.any _ _ _ ?_) | (with_reducible refine WL.same _ _ _ ?_) | (refine WL.eq _ _ _ _ rfl ?_))
                   · simp -implicitDefEqProofs only [go_sem, ht']
                     (repeat' (first | ((with_reducible first | refine gon ?_ ?_ | refine gos ?_ ?_ | refine cdn ?_ ?_ | refine cds ?_ ?_ | refine gpn ?_ ?_ | refine gps ?_ ?_) <;> intro h <;> (try simp only [dt, df, gi, gt] at h) <;> try simp -implicitDefEqProofs only [go_sem, *]) | ((with_reducible refine And.intro ?_ ?_); (· first | omega | (simp only [List.length_take]; omega)); try simp -implicitDefEqProofs only [go_sem, *]) | ((with_reducible refine enter_pu (l3Has_fn e.log _ _ hw) ?_ ?_ ?_); (· rfl); (· rfl); try simp -implicitDefEqProofs only [go_sem, *])))
                     refine ⟨t + 1, by omega, by omega, ?_⟩
                     rw [show heldTo e.log p (t + 1) = heldTo e.log p t + 1 by rw [heldTo, hh]; simp]
                     refine wk_tm ?_; repeat (first | exact WL.nil | (with_reducible refine WL.any _ _ _ ?_) | (with_reducible refine WL.same _ _ _ ?_) | (refine WL.eq _ _ _ _ rfl ?_))
                 · have ht' : ¬ ((t + 1 : Nat) : Int) ≤ 3 := by omega
                   obtain rfl : t = 3 := by omega
                   by_cases hle : (1 : Int) < ((heldTo e.log p 3 : Nat) : Int)
                   · simp -implicitDefEqProofs only [go_sem, ht', hle]
                     (repeat' (first | ((with_reducible first | refine gon ?_ ?_ | refine gos ?_ ?_ | refine cdn ?_ ?_ | refine cds ?_ ?_ | refine gpn ?_ ?_ | refine gps ?_ ?_) <;> intro h <;> (try simp only [dt, df, gi, gt] at h) <;> try simp -implicitDefEqProofs only [go_sem, *]) | ((with_reducible refine And.intro ?_ ?_); (· first | omega | (simp only [List.length_take]; omega)); try simp -implicitDefEqProofs only [go_sem, *]) | fail))
                     refine fin_pu ?_ rfl
                     rw [← hg, show decide (heldTo e.log p 3 ≤ 1) = false by simp; omega]
                     rfl
                   · simp -implicitDefEqProofs only [go_sem, ht', hle, hbp]
                     (repeat' (first | ((with_reducible first | refine gon ?_ ?_ | refine gos ?_ ?_ | refine cdn ?_ ?_ | refine cds ?_ ?_ | refine gpn ?_ ?_ | refine gps ?_ ?_) <;> intro h <;> (try simp only [dt, df, gi, gt] at h) <;> try simp -implicitDefEqProofs only [go_sem, *]) | ((with_reducible refine And.intro ?_ ?_); (· first | omega | (simp only [List.length_take]; omega)); try simp -implicitDefEqProofs only [go_sem, *]) | fail))
                     refine ⟨p + 1, ⟨by omega, by rw [← hg, show decide (heldTo e.log p 3 ≤ 1) = true by simp; omega]; rfl⟩, by omega, ?_⟩
                     refine wk_tm ?_; repeat (first | exact WL.nil | (with_reducible refine WL.any _ _ _ ?_) | (with_reducible refine WL.same _ _ _ ?_) | (refine WL.eq _ _ _ _ rfl ?_)))
        · have hp5' : ¬ (p : Int) < 5 := by omega
          rw [allFrom_ge hp5] at hg
          simp -implicitDefEqProofs only [go_sem, hp5']
          refine fin_pu ?_ rfl
          rw [← hg]
end
section
theorem RecOkI_fn (r : Rc) : Fn1 Tryz.prog 118 [rA r] (Bo r.ok) := by
  refine fn1_of Tryz.func118 rfl rfl ?_
  simp -implicitDefEqProofs only [go_sem, Tryz.f118]
  (repeat' (first | ((with_reducible first | refine gon ?_ ?_ | refine gos ?_ ?_ | refine cdn ?_ ?_ | refine cds ?_ ?_ | refine gpn ?_ ?_ | refine gps ?_ ?_) <;> intro h <;> (try simp only [dt, df, gi, gt] at h) <;> try simp -implicitDefEqProofs only [go_sem, *]) | ((with_reducible refine And.intro ?_ ?_); (· first | omega | (simp only [List.length_take]; omega)); try simp -implicitDefEqProofs only [go_sem, *]) | first | ((with_reducible refine cp_draw2 (id := 4) 8 2 mixed ?_ ?_ ?_ ?_); (· decide +kernel); (· first | (simp only [List.all_cons, List.all_nil, List.length_cons, List.length_nil, Nat.reduceAdd, Nat.reduceLT, decide_true, Bool.and_true, Bool.and_self]; done) | rfl); (· rfl); try simp -implicitDefEqProofs only [go_sem, List.append_nil, *]) | ((with_reducible refine exp_end ?_ ?_); (· decide +kernel); try simp -implicitDefEqProofs only [go_sem, *]) | ((with_reducible refine exp_one 8 ?_ ?_); (· decide +kernel); try simp -implicitDefEqProofs only [go_sem, *]) | ((with_reducible refine exp_one 9 ?_ ?_); (· decide +kernel); try simp -implicitDefEqProofs only [go_sem, *]) | ((with_reducible refine pre_enter _ (det_pu (in_fn _ _ _) ?_ ?_) ?_ ?_); (· rfl); (· rfl); (· rfl); try simp -implicitDefEqProofs only [go_sem, *]) | ((with_reducible refine enter_pu (in_fn _ _ _) ?_ ?_ ?_); (· rfl); (· rfl); try simp -implicitDefEqProofs only [go_sem, *]) | ((with_reducible refine enter_pu (isPage_fn _) ?_ ?_ ?_); (· rfl); (· rfl); try simp -implicitDefEqProofs only [go_sem, *]) | ((with_reducible refine enter_pu (isTx_fn _) ?_ ?_ ?_); (· rfl); (· rfl); try simp -implicitDefEqProofs only [go_sem, *])))
  all_goals ((with_reducible refine fin_pu ?_ ?_); (· (simp_all [Rc.ok, Rc.of, isIn]) <;> (first | omega | (rw [Bool.eq_iff_iff]; simp; done) | (rw [Bool.eq_iff_iff]; simp; omega) | (split <;> (first | rfl | omega | (simp_all; done))))); (· rfl))
end
end Go.Proofs.YtfcnajhanjhonaaGreat.Am
end
section
set_option linter.unusedVariables false
set_option linter.unusedSimpArgs false
namespace Go.Proofs.YtfcnajhanjhonaaGreat.Am
open Go Go.RowKit Go.Shelf Go.Proofs
attribute [local go_sem] Oper.semAt_some
section
def RecAt (W : World) (b o : Nat) (r : Rc) : Prop :=
  W.cell? ⟨b, o, none⟩ = some (.int .i64 r.kind) ∧ W.cell? ⟨b, o + 1, none⟩ = some (.int .i64 r.tx) ∧ W.cell? ⟨b, o + 2, none⟩ = some (.int .i64 r.page) ∧ W.cell? ⟨b, o + 3, none⟩ = some (.int .i64 r.slot) ∧
  W.cell? ⟨b, o + 4, none⟩ = some (.int .i64 r.old) ∧ W.cell? ⟨b, o + 5, none⟩ = some (.int .i64 r.new) ∧ W.cell? ⟨b, o + 6, none⟩ = some (.int .i64 r.prev) ∧ W.cell? ⟨b, o + 7, none⟩ = some (.int .i64 r.next)
def recV (r : Rc) : Value := .agg #[.int .i64 r.kind, .int .i64 r.tx, .int .i64 r.page, .int .i64 r.slot, .int .i64 r.old, .int .i64 r.new, .int .i64 r.prev, .int .i64 r.next]
/-- What has come when k rounds are over. -/
def upto {α : Type} (f : Nat → α) (k : Nat) : List α := (List.range k).map f
theorem upto_succ {α : Type} (f : Nat → α) (k : Nat) : upto f (k + 1) = upto f k ++ [f k] := by simp [upto, List.range_succ]
theorem upto_length {α : Type} (f : Nat → α) (k : Nat) : (upto f k).length = k := by simp [upto]
/-- The k-th that comes: its place, and the record. -/
def bk (l : List Rc) (k : Nat) : Int × Rc := ((l.length : Int) - 1 - (k : Int), at' l ((l.length : Int) - 1 - (k : Int)))
set_option maxRecDepth 100000 in
set_option maxHeartbeats 4000000 in
theorem back1_in (F : Fence) (n : Nat) (h102 : F.fn 152) (hro : F.round = none) (hn : 1 ≤ n) (ll Bs n₀ b off cap : Nat) (l : List Rc) (hreach : l.length < 1000000) (hb : b < n₀) (J Jx : List (Int × Rc) → World → Prop)
    (hY : ∀ pre x W, J pre W → pre.length < l.length → YieldAt F (n - 1) Tryz.prog ll #[.int .i64 x.1, recV x.2] W fun e W' =>
      (e = .returned (.bool true) ∧ J (pre ++ [x]) W' ∧ Below n₀ W W') ∨ (e = .returned (.bool false) ∧ Jx (pre ++ [x]) W'))
    (W : World) (hBs : W.cell? ⟨Bs, 0, none⟩ = some (.slice (some ⟨b, off, none⟩) l.length cap)) (hBb : Bs < n₀) (hc : ∀ k : Nat, k < l.length → RecAt W b (off + k * 8) (at' l (k : Int))) (h0 : J [] W) :
    CallsIn F n Tryz.prog 152 #[.func (.yield ll) #[] #[], .pointer (some ⟨Bs, 0, none⟩)] W fun e W' => (∃ v, e = .returned v) ∧
      ((∃ ys, ys = upto (bk l) l.length ∧ J ys W') ∨ (∃ pre, (∃ k, k ≤ l.length ∧ pre = upto (bk l) k) ∧ Jx pre W')) := by
  refine callsIn_of_wp Tryz.func152 rfl h102 ?_ hro
  simp only [Tryz.ntmps152, List.size_toArray, List.length_cons, List.length_nil, Nat.reduceAdd, Nat.reduceSub, Array.replicate_succ, Array.replicate_zero, List.push_toArray, List.append_toArray, List.nil_append, List.cons_append]
  gi_wp2
  gi_loopw [3] (fun i wr => ∃ k : Nat, k ≤ l.length ∧ i = .int .i64 ((l.length : Int) - 1 - (k : Int)) ∧ J (upto (bk l) k) wr ∧ Below n₀ W wr)
    (fun i _ => (intOf i + 1).toNat)
  case atStart => exact ⟨0, Nat.zero_le _, by simp, h0, Below.refl _ _⟩
  case round =>
    obtain ⟨k, hk, rfl, hJs, hnx⟩ := hrel
    have hBs' := (hnx.cell (p := ⟨Bs, 0, none⟩) hBb).trans hBs
    by_cases hlt : k < l.length
    · obtain ⟨m, hm⟩ : ∃ m : Nat, (l.length : Int) - 1 - (k : Int) = (m : Int) := ⟨l.length - 1 - k, by omega⟩
      have hml : m < l.length := by omega
      obtain ⟨fn, tmps, assign, body, hy, hR⟩ := hY _ (bk l k) wr hJs (by rw [upto_length]; exact hlt)
      simp only [bk, recV] at hy
      rw [hm] at hy
      obtain ⟨c0, c1, c2, c3, c4, c5, c6, c7⟩ := hc m hml
      have d0 := (hnx.cell (p := ⟨b, off + m * 8, none⟩) hb).trans c0
      have d1 := (hnx.cell (p := ⟨b, off + m * 8 + 1, none⟩) hb).trans c1
      have d2 := (hnx.cell (p := ⟨b, off + m * 8 + 2, none⟩) hb).trans c2
      have d3 := (hnx.cell (p := ⟨b, off + m * 8 + 3, none⟩) hb).trans c3
      have d4 := (hnx.cell (p := ⟨b, off + m * 8 + 4, none⟩) hb).trans c4
      have d5 := (hnx.cell (p := ⟨b, off + m * 8 + 5, none⟩) hb).trans c5
      have d6 := (hnx.cell (p := ⟨b, off + m * 8 + 6, none⟩) hb).trans c6
      have d7 := (hnx.cell (p := ⟨b, off + m * 8 + 7, none⟩) hb).trans c7
      clear c0 c1 c2 c3 c4 c5 c6 c7
      rw [hm]
      gi_wp2
      refine hR.mono ?_
      rintro e W3 (⟨rfl, hJ3, hk3⟩ | ⟨rfl, hJx3⟩)
      · gi_wp2
        go_roundw
        case rel => exact ⟨k + 1, by omega, by simp; omega, by rw [upto_succ]; exact hJ3, hnx.trans hk3⟩
        case measure => simp [intOf]
      · gi_wp2
        refine bodyPost_ret (results_none rfl _ _ _) rfl ?_
        exact ⟨⟨_, rfl⟩, .inr ⟨_, ⟨k + 1, by omega, (upto_succ _ _).symm⟩, hJx3⟩⟩
    · obtain rfl : k = l.length := by omega
      rw [show (l.length : Int) - 1 - (l.length : Int) = -1 by omega]
      gi_wp2
      go_end0
      exact ⟨⟨_, rfl⟩, .inl ⟨_, rfl, hJs⟩⟩
set_option maxRecDepth 100000 in
set_option maxHeartbeats 1000000 in
/-- .. at a slice of nothing: no round. -/
theorem back1_nil_in (F : Fence) (n : Nat) (h102 : F.fn 152) (hro : F.round = none) (ll Bs cap : Nat) (A : Option Addr) (J : List (Int × Rc) → World → Prop) (W : World) (hBs : W.cell? ⟨Bs, 0, none⟩ = some (.slice A 0 cap)) (h0 : J [] W) :
    CallsIn F n Tryz.prog 152 #[.func (.yield ll) #[] #[], .pointer (some ⟨Bs, 0, none⟩)] W fun e W' => (∃ v, e = .returned v) ∧ J [] W' := by
  refine callsIn_of_wp Tryz.func152 rfl h102 ?_ hro
  simp only [Tryz.ntmps152, List.size_toArray, List.length_cons, List.length_nil, Nat.reduceAdd, Nat.reduceSub, Array.replicate_succ, Array.replicate_zero, List.push_toArray, List.append_toArray, List.nil_append, List.cons_append]
  gi_wp2
  gi_loopw [3] (fun i wr => i = .int .i64 (-1) ∧ J [] wr) (fun _ _ => 0)
  case atStart => exact ⟨by simp, h0⟩
  case round =>
    obtain ⟨rfl, hJs⟩ := hrel
    gi_wp2
    go_end0
    exact ⟨⟨_, rfl⟩, hJs⟩
/-- The slice value sv holds the records l, in a block below n₀; or there are none. -/
def RecsV (n₀ : Nat) (W : World) (sv : Value) (l : List Rc) : Prop :=
  (∃ A cap, sv = .slice A 0 cap ∧ l = []) ∨ ∃ b off cap, sv = .slice (some ⟨b, off, none⟩) l.length cap ∧ b < n₀ ∧ ∀ k : Nat, k < l.length → RecAt W b (off + k * 8) (at' l (k : Int))
theorem RecAt.below {n₀ : Nat} {A B : World} (h : Below n₀ A B) {b o : Nat} (hb : b < n₀) {r : Rc} (hr : RecAt A b o r) : RecAt B b o r := by
  obtain ⟨c0, c1, c2, c3, c4, c5, c6, c7⟩ := hr
  exact ⟨(h.cell (p := ⟨b, o, none⟩) hb).trans c0, (h.cell (p := ⟨b, o + 1, none⟩) hb).trans c1, (h.cell (p := ⟨b, o + 2, none⟩) hb).trans c2, (h.cell (p := ⟨b, o + 3, none⟩) hb).trans c3,
    (h.cell (p := ⟨b, o + 4, none⟩) hb).trans c4, (h.cell (p := ⟨b, o + 5, none⟩) hb).trans c5, (h.cell (p := ⟨b, o + 6, none⟩) hb).trans c6, (h.cell (p := ⟨b, o + 7, none⟩) hb).trans c7⟩
theorem RecsV.below {n₀ : Nat} {A B : World} (h : Below n₀ A B) {sv : Value} {l : List Rc} : RecsV n₀ A sv l → RecsV n₀ B sv l
  | .inl e => .inl e
  | .inr ⟨b, off, cap, e, hb, hc⟩ => .inr ⟨b, off, cap, e, hb, fun k hk => (hc k hk).below h hb⟩
set_option maxHeartbeats 1000000 in
theorem back_in (F : Fence) (n : Nat) (h94 : F.fn 127) (hro : F.round = none) (a : Option Addr) (len cap : Nat) (w : World) :
    CallsIn F n Tryz.prog 127 #[.slice a len cap] w fun e w' => e = .returned (.func (.func 152) #[] #[.pointer (some ⟨w.heap.size, 0, none⟩)]) ∧ w' = w.alloc (.cells #[.slice a len cap] 29) := by
  refine callsIn_of_wp Tryz.func127 rfl h94 ?_ hro
  simp only [Tryz.ntmps127, List.size_toArray, List.length_cons, List.length_nil, Nat.reduceAdd, Nat.reduceSub, Array.replicate_succ, Array.replicate_zero, List.push_toArray, List.append_toArray, List.nil_append, List.cons_append]
  gi_wp2
  go_ret
  exact ⟨rfl, rfl⟩
/-- slices.Backward's value, as a loop over it goes. -/
theorem back_stops (F : Fence) (n : Nat) (h102 : F.fn 152) (hro : F.round = none) (hn : 1 ≤ n) (Bs n₀ n₁ : Nat) (sv : Value) (l : List Rc) (hreach : l.length < 1000000) (w : World) (hBs : Bs < n₁) (hn₁ : n₁ ≤ w.heap.size) (hn₀ : n₀ ≤ n₁)
    (hc : w.cell? ⟨Bs, 0, none⟩ = some sv) (hI : RecsV n₀ w sv l) :
    SeqStopsK F n Tryz.prog 152 #[.pointer (some ⟨Bs, 0, none⟩)] (fun x : Int × Rc => #[Value.int .i64 x.1, recV x.2]) (Below n₁) (fun ys => ys = upto (bk l) l.length)
      (fun pre => ∃ k, k ≤ l.length ∧ pre = upto (bk l) k) l.length w := fun ll J Jx W hW _ _ hY h0 => by
  have hc' := (hW.cell (p := ⟨Bs, 0, none⟩) (show Bs < w.heap.size by omega)).trans hc
  rcases hI.below (hW.mono (by omega)) with ⟨A, cap, rfl, rfl⟩ | ⟨b, off, cap, rfl, hb, hcs⟩
  · exact (back1_nil_in F n h102 hro ll Bs cap A J W hc' h0).mono fun e W' ⟨he, hj⟩ => ⟨he, .inl ⟨_, rfl, hj⟩⟩
  · exact back1_in F n h102 hro hn ll Bs n₁ b off cap l hreach (by omega) J Jx hY W hc' hBs hcs h0
end
section
/-- The cells of a record. -/
def recCs (r : Rc) : Array Value := #[.int .i64 r.kind, .int .i64 r.tx, .int .i64 r.page, .int .i64 r.slot, .int .i64 r.old, .int .i64 r.new, .int .i64 r.prev, .int .i64 r.next]
def BoxedR (W : World) (B : Nat) (r : Rc) : Prop := W.heap[B]? = some (.cells (recCs r) 48)
theorem BoxedR.kept {W W' : World} {row : Option Nat} {B : Nat} {r : Rc} (h : BoxedR W B r) (hg : W.grownBy W' row) (hne : some B ≠ row) : BoxedR W' B r :=
  (hg.block B (Array.getElem?_eq_some_iff.1 h).1 hne).trans h
theorem rep_rec (ok : Nat → Prop) (w : World) (μ : Nat → Nat) (S : Store) (r : Rc) : Rep ok w μ S (rA r) (recV r) := by
  refine .agg _ [.int .i64 r.kind, .int .i64 r.tx, .int .i64 r.page, .int .i64 r.slot, .int .i64 r.old, .int .i64 r.new, .int .i64 r.prev, .int .i64 r.next] rfl (by simp [AV.scalar]) ?_
  intro j x v hj hv
  rcases j with _ | _ | _ | _ | _ | _ | _ | _ | j
  all_goals first | (simp at hj hv; subst hj; subst hv; exact .prim _ rfl) | (simp at hj)
/-- A contract over data, of the model's own. -/
theorem calls_of_fn1 {f : FuncId} {r : Rc} {b : Bool} (h : Fn1 Tryz.prog f [rA r] (Bo b)) (w : World) : Calls Tryz.prog f #[recV r] w (fun e w' => e = .returned (.bool b) ∧ Below w.heap.size w w') := by
  refine (h.2 (fun _ => True) (fun i => i) w #[recV r] (fun _ _ => trivial) ⟨by simp, by simp, by simp⟩ rfl ?_).mono ?_
  · intro j x hj
    rcases j with _ | j
    · simp at hj; subst hj; exact rep_rec _ _ _ _ _
    · simp at hj
  · rintro e w' ⟨r', v, S', mv, μ', rfl, ⟨⟨rfl, rfl⟩, rfl⟩, hrs, hrep, hmod, _⟩
    cases hrep
    exact ⟨rfl, hmod.os, hmod.tape, hmod.output, hmod.size, fun k hk => hmod.keep k hk (by rintro ⟨i, o, hi, _⟩; simp at hi)⟩
theorem lastTo_skip {l : List Rc} {tx : Int} : ∀ m, m ≤ l.length → (∀ p ∈ upto (bk l) m, p.2.tx ≠ tx) → lastN l tx = lastTo l tx (l.length - m)
  | 0, _, _ => rfl
  | m + 1, hm, h => by
    rw [upto_succ] at h
    rw [lastTo_skip m (by omega) (fun p hp => h p (List.mem_append_left _ hp))]
    have hx := h (bk l m) (by simp)
    obtain ⟨q, hq⟩ : ∃ q, l.length - m = q + 1 := ⟨l.length - m - 1, by omega⟩
    rw [hq, show l.length - (m + 1) = q by omega, lastTo, if_neg]
    have : ((l.length : Int) - 1 - (m : Int)) = (q : Int) := by omega
    simp only [bk, this] at hx
    exact hx
theorem last_none {l : List Rc} {tx : Int} (h : ∀ p ∈ upto (bk l) l.length, p.2.tx ≠ tx) : ((lastN l tx : Nat) : Int) = 0 := by
  rw [lastTo_skip l.length (Nat.le_refl _) h, Nat.sub_self]; rfl
theorem last_some {l : List Rc} {tx : Int} {k : Nat} (hk : k < l.length ∧ l.length < 1000000) (h : ∀ p ∈ upto (bk l) k, p.2.tx ≠ tx) (hx : (bk l k).2.tx = tx) :
    ((lastN l tx : Nat) : Int) = if (bk l k).2.ends = true then 0 else wrap64 ((bk l k).1 + 1) := by
  rw [lastTo_skip k (by omega) h]
  obtain ⟨q, hq⟩ : ∃ q, l.length - k = q + 1 := ⟨l.length - k - 1, by omega⟩
  have hb : ((l.length : Int) - 1 - (k : Int)) = (q : Int) := by omega
  simp only [bk, hb] at hx ⊢
  rw [hq, lastTo, if_pos hx]
  split
  · rfl
  · rw [show wrap64 ((q : Int) + 1) = (q : Int) + 1 by unfold wrap64; omega]
    rfl
set_option maxRecDepth 100000 in
set_option maxHeartbeats 4000000 in
theorem last_in (F : Fence) (n : Nat) (hF : F = Fence.wide) (hn : 3 ≤ n) (a : Option Addr) (len cap : Nat) (l : List Rc) (tx : Int) (hreach : l.length < 1000000) (w : World) (hI : RecsV w.heap.size w (.slice a len cap) l) :
    CallsIn F n Tryz.prog 84 #[.slice a len cap, .int .i64 tx] w fun e W' => e = .returned (.int .i64 (lastN l tx)) ∧ Below w.heap.size w W' := by
  have h1 : 1 ≤ n := by omega
  have h85 : F.fn 84 := by rw [hF]; trivial
  have h94 : F.fn 127 := by rw [hF]; trivial
  have h102 : F.fn 152 := by rw [hF]; trivial
  have hro : F.round = none := by rw [hF]; rfl
  have h62 : F.fn 119 := by rw [hF]; trivial
  have hends : ∀ (m : Nat) (r : Rc) (w : World), CallsIn F m Tryz.prog 119 #[recV r] w (fun e w' => e = .returned (.bool r.ends) ∧ Below w.heap.size w w') := fun m r w => by
    rw [hF]; exact callsIn_wide.2 (calls_of_fn1 (ends_fn r) w)
  clear hF
  refine callsIn_of_wp_marks Tryz.func84 rfl h85 ?_ hro
  simp only [Tryz.ntmps84, List.size_toArray, List.length_cons, List.length_nil, Nat.reduceAdd, Nat.reduceSub, Array.replicate_succ, Array.replicate_zero, List.push_toArray, List.append_toArray, List.nil_append, List.cons_append]
  gi_wp2_with (gi_at_call 127; refine (back_in F (n - 1) h94 hro _ _ _ _).mono ?_; rintro e w' ⟨rfl, rfl⟩)
  have bT := Boxed.new w 3 (.int .i64 tx)
  have bR := Boxed.new (w.alloc (.cells #[.int .i64 tx] 3)) 3 (.int .i64 0)
  rw [World.size_alloc] at bR
  have bN := Boxed.new ((w.alloc (.cells #[.int .i64 tx] 3)).alloc (.cells #[.int .i64 0] 3)) 29 (.slice a len cap)
  rw [World.size_alloc, World.size_alloc] at bN
  have hB0 : Below w.heap.size w (((w.alloc (.cells #[.int .i64 tx] 3)).alloc (.cells #[.int .i64 0] 3)).alloc (.cells #[.slice a len cap] 29)) := (((Below.refl _ w).alloc (Nat.le_refl _) _).alloc (by simp) _).alloc (by simp; omega) _
  have bT' := (bT.alloc (.cells #[.int .i64 0] 3)).alloc (.cells #[.slice a len cap] 29)
  have bR' := bR.alloc (.cells #[.slice a len cap] 29)
  obtain ⟨W0, hW0⟩ : ∃ W0, (((w.alloc (.cells #[.int .i64 tx] 3)).alloc (.cells #[.int .i64 0] 3)).alloc (.cells #[.slice a len cap] 29)) = W0 := ⟨_, rfl⟩
  have hsz : W0.heap.size = w.heap.size + 3 := by rw [← hW0]; simp
  rw [hW0] at hB0 bT' bR' bN
  rw [hW0]
  clear hW0
  refine wpIn_rangeFunc_ownH hro h1 (gf := 152) (lb := #[.pointer (some ⟨w.heap.size + 1 + 1, 0, none⟩)]) rfl h102 (enters_of Tryz.func152 (by kernel_rfl) rfl)
    (back_stops F (n - 1) h102 hro (by omega) (w.heap.size + 1 + 1) w.heap.size W0.heap.size (.slice a len cap) l hreach W0 (by omega) (Nat.le_refl _) (by omega) bN.cell (hI.below hB0)) belowK_t (belowK_b (Nat.le_refl _)) (Below.refl _ _) (fun _ => rfl)
    (fun pre W => ((∀ p ∈ pre, p.2.tx ≠ tx) ∧ Boxed W w.heap.size 3 (.int .i64 tx) ∧ Boxed W (w.heap.size + 1) 3 (.int .i64 0)) ∧ (Below w.heap.size w W ∧ W0.heap.size ≤ W.heap.size))
    (fun c pre W => (c = .ret ∧ ∃ ini last, pre = ini ++ [last] ∧ (∀ p ∈ ini, p.2.tx ≠ tx) ∧ last.2.tx = tx ∧ Boxed W (w.heap.size + 1) 3 (.int .i64 (if last.2.ends = true then 0 else wrap64 (last.1 + 1)))) ∧ Below w.heap.size w W)
    (OwnFrom.and (Own.from (fun s A B row hs hg hr => ⟨hs.1, boxed_own _ _ (fun _ : Unit => Value.int .i64 tx) () A B row hs.2.1 hg hr, boxed_own _ _ (fun _ : Unit => Value.int .i64 0) () A B row hs.2.2 hg hr⟩) _) (OwnFrom.and (ownFrom_below (Nat.le_refl _) (by omega)) (fun s X Y row hs hg hr => Nat.le_trans hs hg.size)))
    (fun c => OwnFrom.and (Own.from (fun s A B row hs hg hr => by
      obtain ⟨hc, ini, last, e1, e2, e3, e4⟩ := hs
      exact ⟨hc, ini, last, e1, e2, e3, boxed_own _ _ (fun _ : Unit => Value.int .i64 (if last.2.ends = true then 0 else wrap64 (last.1 + 1))) () A B row e4 hg hr⟩) _) (ownFrom_below (Nat.le_refl _) (by omega)))
    ⟨⟨by simp, bT', bR'⟩, hB0, Nat.le_refl _⟩
    (fun x a' W => ∃ Bx, W0.heap.size ≤ Bx ∧ BoxedR W Bx x.2 ∧ a' = { tmps := #[.slice a len cap, .int .i64 tx, undef, .pointer (some ⟨w.heap.size, 0, none⟩), .pointer (some ⟨w.heap.size + 1, 0, none⟩), .int .i64 x.1, .pointer (some ⟨Bx, 0, none⟩), .slice a len cap, .func (.func 152) #[] #[.pointer (some ⟨w.heap.size + 1 + 1, 0, none⟩)], .int .i64 x.1, recV x.2, undef, undef, undef, undef, undef, undef, undef, undef], defers := [] })
    (fun x a' _ X Y row hs hg hr => by
      obtain ⟨Bx, h1, h2, h3⟩ := hs
      exact ⟨Bx, h1, h2.kept hg (fun e => by obtain ⟨o, ho, hc⟩ := (hr Bx e.symm).2; rw [h2] at ho; cases ho; cases hc), h3⟩)
    ?assign ?body ?done ?stop
  case assign =>
    rintro ll pre x W K ⟨⟨hp, bT1, bR1⟩, hB1, hs1⟩ hK
    simp only [recV] at *
    gi_wp2
    exact hK _ _ ((KeepsOthers.alloc _ _).from _) ((Below.refl _ W).alloc hs1 _) ⟨⟨hp, bT1.alloc _, bR1.alloc _⟩, hB1.alloc hB1.size _, Nat.le_trans hs1 (by simp)⟩ ⟨W.heap.size, hs1, World.alloc_heap_new W _, rfl⟩
  case body =>
    rintro ll pre x a' W hl ⟨r, hr⟩ ⟨⟨hp, bT1, bR1⟩, hB1, hs1⟩ ⟨Bx, hBx, bX, rfl⟩ hlt
    have hc1 := bT1.cell
    have hc2 := bR1.cell
    have hf2 := bR1.frozen
    have h1' : 1 ≤ n - 1 - 1 := by omega
    have bX' : W.heap[Bx]? = some (.cells (recCs x.2) 48) := bX
    have x1 : W.cell? ⟨Bx, 1, none⟩ = some (.int .i64 x.2.tx) := by simp [World.cell?, bX', recCs]
    have x0 : W.cell? ⟨Bx, 0, none⟩ = some (.int .i64 x.2.kind) := by simp [World.cell?, bX', recCs]
    have x2 : W.cell? ⟨Bx, 2, none⟩ = some (.int .i64 x.2.page) := by simp [World.cell?, bX', recCs]
    have x3 : W.cell? ⟨Bx, 3, none⟩ = some (.int .i64 x.2.slot) := by simp [World.cell?, bX', recCs]
    have x4 : W.cell? ⟨Bx, 4, none⟩ = some (.int .i64 x.2.old) := by simp [World.cell?, bX', recCs]
    have x5 : W.cell? ⟨Bx, 5, none⟩ = some (.int .i64 x.2.new) := by simp [World.cell?, bX', recCs]
    have x6 : W.cell? ⟨Bx, 6, none⟩ = some (.int .i64 x.2.prev) := by simp [World.cell?, bX', recCs]
    have x7 : W.cell? ⟨Bx, 7, none⟩ = some (.int .i64 x.2.next) := by simp [World.cell?, bX', recCs]
    simp only [recV] at *
    have hcall : CallsIn (F.inRound ll) (n - 1 - 1 - 1) Tryz.prog 119 #[.agg #[.int .i64 x.2.kind, .int .i64 x.2.tx, .int .i64 x.2.page, .int .i64 x.2.slot, .int .i64 x.2.old, .int .i64 x.2.new, .int .i64 x.2.prev, .int .i64 x.2.next]] W (fun e w' => e = .returned (.bool x.2.ends) ∧ Below W.heap.size W w') := CallsIn.inRound ll (hends (n - 1 - 1 - 1) x.2 W)
    clear hends
    by_cases htx : x.2.tx = tx
    · gi_wp2
      rw [htx] at hcall
      refine hcall.mono ?_
      rintro e w' ⟨rfl, hbw⟩
      have bR2 : Boxed w' (w.heap.size + 1) 3 (.int .i64 0) := (hbw.block _ bR1.lt).trans bR1
      have hc3 := bR2.cell
      have hf3 := bR2.frozen
      have hkf : KeepsFrom W0.heap.size W w' := ⟨hbw.size, fun k o _ hk _ => (hbw.block k (Array.getElem?_eq_some_iff.1 hk).1).trans hk⟩
      have hB2 : Below w.heap.size w w' := hB1.trans (hbw.mono (by omega))
      clear hcall hbw
      rcases he : x.2.ends with _ | _
      · gi_wp2
        exact ⟨hkf.trans ((KeepsOthers.setCell _ _ _).from _), ⟨rfl, pre, x, rfl, hp, htx, by rw [he]; exact bR2.set _⟩, hB2.setCell (p := ⟨w.heap.size + 1, 0, none⟩) (by simp) _⟩
      · gi_wp2
        exact ⟨hkf.trans ((KeepsOthers.setCell _ _ _).from _), ⟨rfl, pre, x, rfl, hp, htx, by rw [he]; exact bR2.set _⟩, hB2.setCell (p := ⟨w.heap.size + 1, 0, none⟩) (by simp) _⟩
    · gi_wp2
      exact ⟨KeepsFrom.refl _ _, Below.refl _ _, ⟨fun p hp' => (List.mem_append.1 hp').elim (hp p) (fun e => by simp at e; subst e; exact htx), bT1, bR1⟩, hB1, hs1⟩
  case done =>
    rintro D ys W hD rfl ⟨⟨hne, hT1, bR1⟩, hB, hs1⟩ hK
    have hcr := bR1.cell
    have hfr := bR1.frozen
    gi_wp2
    have hK' := (KeepsOthers.setCell W ⟨w.heap.size + 1, 0, none⟩ (.int .i64 0)).same D _ hK rfl
    refine ⟨by simp, .inl ⟨_, _, rfl, run_takeDeferred hK', ?_⟩⟩
    have hc5 := cell_kept (World.cell?_setCell_same' W ⟨w.heap.size + 1, 0, none⟩ (.int .i64 0) (by rw [hcr]; rfl)) (grownBy_putObj' _ D (.deferred none)) (fun r e => by cases e; exact ⟨_, hK', rfl⟩)
    refine ⟨.int .i64 0, ?_, ⟨by rw [last_none hne], (hB.setCell (p := ⟨w.heap.size + 1, 0, none⟩) (by simp) _).trans (belowK_b (w := W0) (by omega) _ D _ _ hD hK' rfl rfl)⟩⟩
    simp [results, Tryz.f84, go_sem, hc5]
  case stop =>
    rintro D c pre W hD ⟨k, hk, rfl⟩ ⟨⟨rfl, ini, last, e1, e2, e3, bR1⟩, hB⟩ hK
    have hcr := bR1.cell
    gi_wp2
    refine ⟨by simp, .inl ⟨_, _, rfl, run_takeDeferred hK, ?_⟩⟩
    have hc5 := cell_kept hcr (grownBy_putObj' _ D (.deferred none)) (fun r e => by cases e; exact ⟨_, hK, rfl⟩)
    obtain ⟨k', rfl⟩ : ∃ k', k = k' + 1 := by
      cases k with
      | zero => simp [upto] at e1
      | succ k' => exact ⟨k', rfl⟩
    rw [upto_succ] at e1
    obtain ⟨rfl, e5⟩ := List.append_inj' e1 rfl
    obtain rfl : bk l k' = last := by simpa using e5
    refine ⟨.int .i64 (if (bk l k').2.ends = true then 0 else wrap64 ((bk l k').1 + 1)), ?_, ⟨by rw [last_some (by omega) e2 e3], hB.trans (belowK_b (w := W0) (by omega) W D _ _ hD hK rfl rfl)⟩⟩
    simp [results, Tryz.f84, go_sem, hc5]
/-- What stands for a list of records, as the model sees it. -/
theorem recsV_of {ok : Nat → Prop} {μ : Nat → Nat} {w : World} {l : List Rc} {v : Value} (h : Rep ok w μ [] (recs l) v) : ∃ a len cap, v = .slice a len cap ∧ RecsV w.heap.size w v l := by
  cases h with
  | sl _ _ _ h =>
    cases h with
    | sl _ _ n A c ad f hn hc hA hz0 hz h1 h2 =>
      subst hn
      refine ⟨_, _, _, rfl, ?_⟩
      rcases l with _ | ⟨r, l⟩
      · exact .inl ⟨A, c, rfl, rfl⟩
      · right
        obtain ⟨rfl, hok, hsp⟩ := hA (by simp)
        obtain ⟨b, off, sp⟩ := ad
        simp only at hsp
        subst hsp
        have key : ∀ (k : Nat), k < (r :: l).length → ∀ (j : Nat) (d : D), (rD (at' (r :: l) (k : Int))).cells[j]? = some d → ∀ n : Int, d = iD n → w.cell? ⟨b, off + k * 8 + j, none⟩ = some (.int .i64 n) := by
          intro k hk j d hd n hdn
          have e1 : ((r :: l).map rD)[k]? = some (rD (at' (r :: l) (k : Int))) := by
            rw [List.getElem?_map, List.getElem?_eq_getElem hk]
            simp [at', List.getD, List.getElem?_eq_getElem hk]
          have c1 := h1 k _ j d e1 hd
          have c2 := h2 k _ j d e1 hd
          subst hdn
          rw [Addr.add_lit, ← Nat.add_assoc] at c1
          rw [c1]
          generalize f k j = u at c2
          cases c2
          rfl
        refine ⟨b, off, c, by simp, ?_, ?_⟩
        · have := World.block_lt_of_cell? w _ (key 0 (by simp) 0 _ rfl _ rfl)
          exact this
        · intro k hk
          exact ⟨key k hk 0 _ rfl _ rfl, key k hk 1 _ rfl _ rfl, key k hk 2 _ rfl _ rfl, key k hk 3 _ rfl _ rfl, key k hk 4 _ rfl _ rfl, key k hk 5 _ rfl _ rfl, key k hk 6 _ rfl _ rfl, key k hk 7 _ rfl _ rfl⟩
/-- A contract of the model's own, over records and a number, with a number for its result. -/
theorem fn1_of_calls {f : FuncId} {l : List Rc} {n r : Int} (hc : Callable Tryz.prog f)
    (h : ∀ (w : World) (a : Option Addr) (len cap : Nat), RecsV w.heap.size w (.slice a len cap) l → Calls Tryz.prog f #[.slice a len cap, .int .i64 n] w (fun e w' => e = .returned (.int .i64 r) ∧ Below w.heap.size w w')) : Fn1 Tryz.prog f [recs l, I n] (I r) := by
  refine ⟨hc, ?_⟩
  intro ok μ w vs hok hrs hl hr
  obtain ⟨v0, v1, rfl⟩ : ∃ v0 v1, vs = #[v0, v1] := by
    rcases vs with ⟨vs⟩
    rcases vs with _ | ⟨v0, _ | ⟨v1, _ | ⟨v2, vs⟩⟩⟩ <;> simp at hl
    exact ⟨v0, v1, rfl⟩
  have r0 := hr 0 _ rfl
  have r1 := hr 1 _ rfl
  simp only [Array.getD_eq_getD_getElem?, List.getElem?_toArray, List.getElem?_cons_zero, List.getElem?_cons_succ, Option.getD_some] at r0 r1
  obtain ⟨a, len, cap, rfl, hI⟩ := recsV_of r0
  cases r1
  refine (h w a len cap hI).mono ?_
  rintro e w' ⟨rfl, hb⟩
  have hsh : ∀ (b : Nat) (cs : Array Value) (ty : TypeId) (fz : Nat × Nat), w.heap[b]? = some (.cells cs ty fz) → ∃ cs' : Array Value, w'.heap[b]? = some (.cells cs' ty fz) ∧ cs'.size = cs.size := fun b cs ty fz hbk =>
    ⟨cs, (hb.block b (Array.getElem?_eq_some_iff.1 hbk).1).trans hbk, rfl⟩
  exact ⟨_, _, [], [], μ, rfl, ⟨⟨rfl, rfl⟩, rfl⟩, ⟨by simp, by simp, by simp⟩, .prim _ rfl, ⟨hb.os, hb.tape, hb.output, hb.size, fun b hlt _ => hb.block b hlt, hsh⟩, fun b _ h => h, Nat.le_refl _, fun i hi => by simp at hi⟩
theorem last_c (l : List Rc) (tx : Int) (hl : l.length < 1000000) : Fn1 Tryz.prog 84 [recs l, I tx] (I (lastN l tx)) :=
  fn1_of_calls ⟨_, Tryz.func84, by decide, rfl⟩ fun w a len cap hI => callsIn_wide.1 (last_in Fence.wide 3 rfl (Nat.le_refl _) a len cap l tx hl w hI)
end
section
def hitP (page : Int) (r : Rc) : Prop := r.page = page ∧ (chg r.kind = true ∨ r.kind = 3)
theorem pageTo_skip {l : List Rc} {page : Int} : ∀ m, m ≤ l.length → (∀ p ∈ upto (bk l) m, ¬ hitP page p.2) → pageTo l page l.length = pageTo l page (l.length - m)
  | 0, _, _ => rfl
  | m + 1, hm, h => by
    rw [upto_succ] at h
    rw [pageTo_skip m (by omega) (fun p hp => h p (List.mem_append_left _ hp))]
    have hx := h (bk l m) (by simp)
    obtain ⟨q, hq⟩ : ∃ q, l.length - m = q + 1 := ⟨l.length - m - 1, by omega⟩
    rw [hq, show l.length - (m + 1) = q by omega, pageTo, if_neg]
    have : ((l.length : Int) - 1 - (m : Int)) = (q : Int) := by omega
    simp only [bk, this] at hx
    exact hx
theorem page_none {l : List Rc} {page : Int} (h : ∀ p ∈ upto (bk l) l.length, ¬ hitP page p.2) : ((pageTo l page l.length : Nat) : Int) = 0 := by
  rw [pageTo_skip l.length (Nat.le_refl _) h, Nat.sub_self]; rfl
theorem page_some {l : List Rc} {page : Int} {k : Nat} (hk : k < l.length ∧ l.length < 1000000) (h : ∀ p ∈ upto (bk l) k, ¬ hitP page p.2) (hx : hitP page (bk l k).2) :
    ((pageTo l page l.length : Nat) : Int) = wrap64 ((bk l k).1 + 1) := by
  rw [pageTo_skip k (by omega) h]
  obtain ⟨q, hq⟩ : ∃ q, l.length - k = q + 1 := ⟨l.length - k - 1, by omega⟩
  have hb : ((l.length : Int) - 1 - (k : Int)) = (q : Int) := by omega
  simp only [bk, hb] at hx ⊢
  unfold hitP at hx
  rw [hq, pageTo, if_pos hx]
  rw [show wrap64 ((q : Int) + 1) = (q : Int) + 1 by unfold wrap64; omega]
  rfl
set_option maxRecDepth 100000 in
set_option maxHeartbeats 4000000 in
theorem lastOf_in (F : Fence) (n : Nat) (hF : F = Fence.wide) (hn : 3 ≤ n) (a : Option Addr) (len cap : Nat) (l : List Rc) (page : Int) (hreach : l.length < 1000000) (w : World) (hI : RecsV w.heap.size w (.slice a len cap) l) :
    CallsIn F n Tryz.prog 140 #[.slice a len cap, .int .i64 page] w fun e W' => e = .returned (.int .i64 (pageTo l page l.length)) ∧ Below w.heap.size w W' := by
  have h1 : 1 ≤ n := by omega
  have h85 : F.fn 140 := by rw [hF]; trivial
  have h94 : F.fn 127 := by rw [hF]; trivial
  have h102 : F.fn 152 := by rw [hF]; trivial
  have hro : F.round = none := by rw [hF]; rfl
  have h62 : F.fn 133 := by rw [hF]; trivial
  have hends : ∀ (m : Nat) (r : Rc) (w : World), CallsIn F m Tryz.prog 133 #[recV r] w (fun e w' => e = .returned (.bool (chg r.kind)) ∧ Below w.heap.size w w') := fun m r w => by
    rw [hF]; exact callsIn_wide.2 (calls_of_fn1 (changes_fn r) w)
  clear hF
  refine callsIn_of_wp_marks Tryz.func140 rfl h85 ?_ hro
  simp only [Tryz.ntmps140, List.size_toArray, List.length_cons, List.length_nil, Nat.reduceAdd, Nat.reduceSub, Array.replicate_succ, Array.replicate_zero, List.push_toArray, List.append_toArray, List.nil_append, List.cons_append]
  gi_wp2_with (gi_at_call 127; refine (back_in F (n - 1) h94 hro _ _ _ _).mono ?_; rintro e w' ⟨rfl, rfl⟩)
  have bT := Boxed.new w 3 (.int .i64 page)
  have bR := Boxed.new (w.alloc (.cells #[.int .i64 page] 3)) 3 (.int .i64 0)
  rw [World.size_alloc] at bR
  have bN := Boxed.new ((w.alloc (.cells #[.int .i64 page] 3)).alloc (.cells #[.int .i64 0] 3)) 29 (.slice a len cap)
  rw [World.size_alloc, World.size_alloc] at bN
  have hB0 : Below w.heap.size w (((w.alloc (.cells #[.int .i64 page] 3)).alloc (.cells #[.int .i64 0] 3)).alloc (.cells #[.slice a len cap] 29)) := (((Below.refl _ w).alloc (Nat.le_refl _) _).alloc (by simp) _).alloc (by simp; omega) _
  have bT' := (bT.alloc (.cells #[.int .i64 0] 3)).alloc (.cells #[.slice a len cap] 29)
  have bR' := bR.alloc (.cells #[.slice a len cap] 29)
  obtain ⟨W0, hW0⟩ : ∃ W0, (((w.alloc (.cells #[.int .i64 page] 3)).alloc (.cells #[.int .i64 0] 3)).alloc (.cells #[.slice a len cap] 29)) = W0 := ⟨_, rfl⟩
  have hsz : W0.heap.size = w.heap.size + 3 := by rw [← hW0]; simp
  rw [hW0] at hB0 bT' bR' bN
  rw [hW0]
  clear hW0
  refine wpIn_rangeFunc_ownH hro h1 (gf := 152) (lb := #[.pointer (some ⟨w.heap.size + 1 + 1, 0, none⟩)]) rfl h102 (enters_of Tryz.func152 (by kernel_rfl) rfl)
    (back_stops F (n - 1) h102 hro (by omega) (w.heap.size + 1 + 1) w.heap.size W0.heap.size (.slice a len cap) l hreach W0 (by omega) (Nat.le_refl _) (by omega) bN.cell (hI.below hB0)) belowK_t (belowK_b (Nat.le_refl _)) (Below.refl _ _) (fun _ => rfl)
    (fun pre W => ((∀ p ∈ pre, ¬ hitP page p.2) ∧ Boxed W w.heap.size 3 (.int .i64 page) ∧ Boxed W (w.heap.size + 1) 3 (.int .i64 0)) ∧ (Below w.heap.size w W ∧ W0.heap.size ≤ W.heap.size))
    (fun c pre W => (c = .ret ∧ ∃ ini last, pre = ini ++ [last] ∧ (∀ p ∈ ini, ¬ hitP page p.2) ∧ hitP page last.2 ∧ Boxed W (w.heap.size + 1) 3 (.int .i64 (wrap64 (last.1 + 1)))) ∧ Below w.heap.size w W)
    (OwnFrom.and (Own.from (fun s A B row hs hg hr => ⟨hs.1, boxed_own _ _ (fun _ : Unit => Value.int .i64 page) () A B row hs.2.1 hg hr, boxed_own _ _ (fun _ : Unit => Value.int .i64 0) () A B row hs.2.2 hg hr⟩) _) (OwnFrom.and (ownFrom_below (Nat.le_refl _) (by omega)) (fun s X Y row hs hg hr => Nat.le_trans hs hg.size)))
    (fun c => OwnFrom.and (Own.from (fun s A B row hs hg hr => by
      obtain ⟨hc, ini, last, e1, e2, e3, e4⟩ := hs
      exact ⟨hc, ini, last, e1, e2, e3, boxed_own _ _ (fun _ : Unit => Value.int .i64 (wrap64 (last.1 + 1))) () A B row e4 hg hr⟩) _) (ownFrom_below (Nat.le_refl _) (by omega)))
    ⟨⟨by simp, bT', bR'⟩, hB0, Nat.le_refl _⟩
    (fun x a' W => ∃ Bx, W0.heap.size ≤ Bx ∧ BoxedR W Bx x.2 ∧ a' = { tmps := #[.slice a len cap, .int .i64 page, undef, .pointer (some ⟨w.heap.size, 0, none⟩), .pointer (some ⟨w.heap.size + 1, 0, none⟩), .int .i64 x.1, .pointer (some ⟨Bx, 0, none⟩), .slice a len cap, .func (.func 152) #[] #[.pointer (some ⟨w.heap.size + 1 + 1, 0, none⟩)], .int .i64 x.1, recV x.2, undef, undef, undef, undef, undef, undef, undef, undef, undef, undef, undef, undef, undef, undef, undef], defers := [] })
    (fun x a' _ X Y row hs hg hr => by
      obtain ⟨Bx, h1, h2, h3⟩ := hs
      exact ⟨Bx, h1, h2.kept hg (fun e => by obtain ⟨o, ho, hc⟩ := (hr Bx e.symm).2; rw [h2] at ho; cases ho; cases hc), h3⟩)
    ?assign ?body ?done ?stop
  case assign =>
    rintro ll pre x W K ⟨⟨hp, bT1, bR1⟩, hB1, hs1⟩ hK
    simp only [recV] at *
    gi_wp2
    exact hK _ _ ((KeepsOthers.alloc _ _).from _) ((Below.refl _ W).alloc hs1 _) ⟨⟨hp, bT1.alloc _, bR1.alloc _⟩, hB1.alloc hB1.size _, Nat.le_trans hs1 (by simp)⟩ ⟨W.heap.size, hs1, World.alloc_heap_new W _, rfl⟩
  case body =>
    rintro ll pre x a' W hl ⟨r, hr⟩ ⟨⟨hp, bT1, bR1⟩, hB1, hs1⟩ ⟨Bx, hBx, bX, rfl⟩ hlt
    have hc1 := bT1.cell
    have hc2 := bR1.cell
    have hf2 := bR1.frozen
    have h1' : 1 ≤ n - 1 - 1 := by omega
    have bX' : W.heap[Bx]? = some (.cells (recCs x.2) 48) := bX
    have x1 : W.cell? ⟨Bx, 1, none⟩ = some (.int .i64 x.2.tx) := by simp [World.cell?, bX', recCs]
    have x0 : W.cell? ⟨Bx, 0, none⟩ = some (.int .i64 x.2.kind) := by simp [World.cell?, bX', recCs]
    have x2 : W.cell? ⟨Bx, 2, none⟩ = some (.int .i64 x.2.page) := by simp [World.cell?, bX', recCs]
    have x3 : W.cell? ⟨Bx, 3, none⟩ = some (.int .i64 x.2.slot) := by simp [World.cell?, bX', recCs]
    have x4 : W.cell? ⟨Bx, 4, none⟩ = some (.int .i64 x.2.old) := by simp [World.cell?, bX', recCs]
    have x5 : W.cell? ⟨Bx, 5, none⟩ = some (.int .i64 x.2.new) := by simp [World.cell?, bX', recCs]
    have x6 : W.cell? ⟨Bx, 6, none⟩ = some (.int .i64 x.2.prev) := by simp [World.cell?, bX', recCs]
    have x7 : W.cell? ⟨Bx, 7, none⟩ = some (.int .i64 x.2.next) := by simp [World.cell?, bX', recCs]
    simp only [recV] at *
    have hcall : CallsIn (F.inRound ll) (n - 1 - 1 - 1) Tryz.prog 133 #[.agg #[.int .i64 x.2.kind, .int .i64 x.2.tx, .int .i64 x.2.page, .int .i64 x.2.slot, .int .i64 x.2.old, .int .i64 x.2.new, .int .i64 x.2.prev, .int .i64 x.2.next]] W (fun e w' => e = .returned (.bool (chg x.2.kind)) ∧ Below W.heap.size W w') := CallsIn.inRound ll (hends (n - 1 - 1 - 1) x.2 W)
    clear hends
    by_cases htx : x.2.page = page
    · gi_wp2
      rw [htx] at hcall
      refine hcall.mono ?_
      rintro e w' ⟨rfl, hbw⟩
      have bT2 : Boxed w' w.heap.size 3 (.int .i64 page) := (hbw.block _ bT1.lt).trans bT1
      have bR2 : Boxed w' (w.heap.size + 1) 3 (.int .i64 0) := (hbw.block _ bR1.lt).trans bR1
      have bX2 : w'.heap[Bx]? = some (.cells (recCs x.2) 48) := (hbw.block _ (Array.getElem?_eq_some_iff.1 bX').1).trans bX'
      have y0 : w'.cell? ⟨Bx, 0, none⟩ = some (.int .i64 x.2.kind) := by simp [World.cell?, bX2, recCs]
      have hc3 := bR2.cell
      have hf3 := bR2.frozen
      have hkf : KeepsFrom W0.heap.size W w' := ⟨hbw.size, fun k o _ hk _ => (hbw.block k (Array.getElem?_eq_some_iff.1 hk).1).trans hk⟩
      have hB2 : Below w.heap.size w w' := hB1.trans (hbw.mono (by omega))
      have hK2 : Below W0.heap.size W w' := hbw.mono hs1
      have hs2 : W0.heap.size ≤ w'.heap.size := Nat.le_trans hs1 hbw.size
      clear hcall hbw
      rcases he : chg x.2.kind with _ | _
      · by_cases hk3 : x.2.kind = 3
        · gi_wp2
          exact ⟨hkf.trans ((KeepsOthers.setCell _ _ _).from _), ⟨rfl, pre, x, rfl, hp, ⟨htx, .inr hk3⟩, bR2.set _⟩, hB2.setCell (p := ⟨w.heap.size + 1, 0, none⟩) (by simp) _⟩
        · gi_wp2
          exact ⟨hkf, hK2, ⟨fun p hp' => (List.mem_append.1 hp').elim (hp p) (fun e => by simp at e; subst e; rintro ⟨_, h | h⟩; (· rw [he] at h; cases h); (· exact hk3 h)), bT2, bR2⟩, hB2, hs2⟩
      · gi_wp2
        exact ⟨hkf.trans ((KeepsOthers.setCell _ _ _).from _), ⟨rfl, pre, x, rfl, hp, ⟨htx, .inl he⟩, bR2.set _⟩, hB2.setCell (p := ⟨w.heap.size + 1, 0, none⟩) (by simp) _⟩
    · gi_wp2
      exact ⟨KeepsFrom.refl _ _, Below.refl _ _, ⟨fun p hp' => (List.mem_append.1 hp').elim (hp p) (fun e => by simp at e; subst e; exact fun h => htx h.1), bT1, bR1⟩, hB1, hs1⟩
  case done =>
    rintro D ys W hD rfl ⟨⟨hne, hT1, bR1⟩, hB, hs1⟩ hK
    have hcr := bR1.cell
    have hfr := bR1.frozen
    gi_wp2
    have hK' := (KeepsOthers.setCell W ⟨w.heap.size + 1, 0, none⟩ (.int .i64 0)).same D _ hK rfl
    refine ⟨by simp, .inl ⟨_, _, rfl, run_takeDeferred hK', ?_⟩⟩
    have hc5 := cell_kept (World.cell?_setCell_same' W ⟨w.heap.size + 1, 0, none⟩ (.int .i64 0) (by rw [hcr]; rfl)) (grownBy_putObj' _ D (.deferred none)) (fun r e => by cases e; exact ⟨_, hK', rfl⟩)
    refine ⟨.int .i64 0, ?_, ⟨by rw [page_none hne], (hB.setCell (p := ⟨w.heap.size + 1, 0, none⟩) (by simp) _).trans (belowK_b (w := W0) (by omega) _ D _ _ hD hK' rfl rfl)⟩⟩
    simp [results, Tryz.f140, go_sem, hc5]
  case stop =>
    rintro D c pre W hD ⟨k, hk, rfl⟩ ⟨⟨rfl, ini, last, e1, e2, e3, bR1⟩, hB⟩ hK
    have hcr := bR1.cell
    gi_wp2
    refine ⟨by simp, .inl ⟨_, _, rfl, run_takeDeferred hK, ?_⟩⟩
    have hc5 := cell_kept hcr (grownBy_putObj' _ D (.deferred none)) (fun r e => by cases e; exact ⟨_, hK, rfl⟩)
    obtain ⟨k', rfl⟩ : ∃ k', k = k' + 1 := by
      cases k with
      | zero => simp [upto] at e1
      | succ k' => exact ⟨k', rfl⟩
    rw [upto_succ] at e1
    obtain ⟨rfl, e5⟩ := List.append_inj' e1 rfl
    obtain rfl : bk l k' = last := by simpa using e5
    refine ⟨.int .i64 (wrap64 ((bk l k').1 + 1)), ?_, ⟨by rw [page_some (by omega) e2 e3], hB.trans (belowK_b (w := W0) (by omega) W D _ _ hD hK rfl rfl)⟩⟩
    simp [results, Tryz.f140, go_sem, hc5]
theorem lastOf_c (l : List Rc) (page : Int) (hl : l.length < 1000000) : Fn1 Tryz.prog 140 [recs l, I page] (I (pageTo l page l.length)) :=
  fn1_of_calls ⟨_, Tryz.func140, by decide, rfl⟩ fun w a len cap hI => callsIn_wide.1 (lastOf_in Fence.wide 3 rfl (Nat.le_refl _) a len cap l page hl w hI)
end
end Go.Proofs.YtfcnajhanjhonaaGreat.Am
end
