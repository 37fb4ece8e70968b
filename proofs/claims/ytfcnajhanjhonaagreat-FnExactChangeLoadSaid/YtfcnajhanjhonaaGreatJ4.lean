/- Lemmas and walks: Fq Fr Fs Fu Fv Fw. No conditions. -/
import Derived.Test.YtfcnajhanjhonaaGreatJ3
import Derived.Test.YtfcnajhanjhonaaGreatJ2
import Derived.Laws.Strings
section
set_option linter.unusedVariables false
set_option linter.unusedSimpArgs false
set_option maxRecDepth 100000
set_option maxHeartbeats 8000000
namespace Go.Proofs.YtfcnajhanjhonaaGreat.Am
open Go Go.RowKit Go.Proofs
attribute [local go_sem_proc] Nat.reduceAdd Nat.reduceSub Nat.reduceMul Nat.reduceLT Nat.reduceLeDiff Nat.reduceEqDiff Int.reduceBEq Int.reduceBNe Int.reduceNeg Int.reduceSub Int.reduceLE Int.reduceLT
attribute [local go_sem_proc ↓] reduceIte
attribute [local congr] opsP_congr codeP_congr AWP_congr afterR_congr preP_congr afterPre_congr gPre_congr gOps_congr condP_congr stepE_congr
attribute [local go_sem] ty_int ty_bool ty_str ty_u8 ty_ints ty_bytes ty_page ty_pages ty_lpage ty_lpages ty_rec ty_recs ty_lrec ty_lrecs ty_eng ty_leng
attribute [local go_sem] true_and and_true beq_true' beq_false' toNat_cast Int.natCast_nonneg Bool.not_not Bool.not_true Bool.not_false decide_true decide_false Bool.or_false Bool.false_or Bool.or_true Bool.true_or Bool.and_false Bool.false_and Nat.zero_add Int.toNat_of_nonneg wrap_succ wrap_m1 wrap_nat succ_m1 cast0 succ_pos' succ_ne' succ_bne' ge_iff_le gt_iff_lt if_true if_false
/-- A region that draws its order, every order gone through. -/
theorem cp_draw0 {P : Program} {id : Nat} {ops : List Oper} {Q : Exit → St → Prop} {tm : List AV} {S : Store} {mv : List Nat} (n : Nat) (hm : P.follows .mixedOrders = true) (hn : ops.toArray.size = n)
    (h : expP P ops.toArray n (Array.replicate n false) ⟨tm, S, mv⟩ (fun st' => Q .normal st')) : codeP P (.region id ops.toArray true) Q ⟨tm, S, mv⟩ := by
  subst hn
  intro ok w0 μ0 Sc μ a w hr
  exact wp_region_any hm (exp_any (fun st μ a w hk hr => ⟨st, μ, hk, hr⟩) _ _ _ μ a _ h hr.drew)
theorem Clone_own (l : List Int) (h0 : 0 < l.length) (hb : l.length < 1000000) : Fn Tryz.prog 49 [ints l] (fun r S => r = .own 0 1 0 l.length ∧ S = [some ⟨1, l.map I⟩]) := by
  refine fn_of Tryz.func49 rfl rfl ?_
  simp -implicitDefEqProofs only [go_sem, Tryz.f49]
  (repeat' (first | ((with_reducible first | refine gon ?_ ?_ | refine gos ?_ ?_ | refine cdn ?_ ?_ | refine cds ?_ ?_ | refine gpn ?_ ?_ | refine gps ?_ ?_) <;> intro h <;> (try simp only [dt, df, gi, gt] at h) <;> try simp -implicitDefEqProofs only [go_sem, *]) | ((with_reducible refine And.intro ?_ ?_); (· first | omega | (simp only [List.length_take]; omega)); try simp -implicitDefEqProofs only [go_sem, *]) | fail))
  exact fin_keep [0] (by simp) rfl (keep1 rfl (a2_I _ _)) (rt_own _ rfl) ⟨rfl, rfl⟩
theorem copied_own (p : Pg) (h0 : 0 < p.vals.length) (hb : p.vals.length < 1000000) : Fn Tryz.prog 156 [pA p] (fun r S => r = .agg [I p.lsn, I p.owner, .own 0 1 0 p.vals.length] ∧ S = [some ⟨1, p.vals.map I⟩]) := by
  refine fn_of Tryz.func156 rfl rfl ?_
  simp -implicitDefEqProofs only [go_sem, Tryz.f156]
  ((with_reducible refine cp_draw2 (id := 1) 7 2 mixed ?_ ?_ ?_ ?_); (· decide +kernel); (· first | (simp only [List.all_cons, List.all_nil, List.length_cons, List.length_nil, Nat.reduceAdd, Nat.reduceLT, decide_true, Bool.and_true, Bool.and_self]; done) | rfl); (· rfl); try simp -implicitDefEqProofs only [go_sem, List.append_nil, *])
  (repeat' (first | ((with_reducible first | refine gon ?_ ?_ | refine gos ?_ ?_ | refine cdn ?_ ?_ | refine cds ?_ ?_ | refine gpn ?_ ?_ | refine gps ?_ ?_) <;> intro h <;> (try simp only [dt, df, gi, gt] at h) <;> try simp -implicitDefEqProofs only [go_sem, *]) | ((with_reducible refine And.intro ?_ ?_); (· first | omega | (simp only [List.length_take]; omega)); try simp -implicitDefEqProofs only [go_sem, *]) | ((with_reducible refine pre_made (Clone_own _ h0 ?_) ?_ ?_ ?_ ?_ ?_ ?_); (· (first | assumption | omega | (simp; omega))); (· rfl); (· intro n; simp only [go_sem, List.map_cons, List.map_nil, Nat.zero_add]); (· intro n; simp only [go_sem]); (· rfl); (· first | exact slt_I | exact slt_p | exact slt_r | rfl); try simp -implicitDefEqProofs only [go_sem, List.map_cons, List.map_nil, *])))
  ((with_reducible refine exp_one 7 ?_ ?_); (· decide +kernel); try simp -implicitDefEqProofs only [go_sem, *])
  ((with_reducible refine exp_one 8 ?_ ?_); (· decide +kernel); try simp -implicitDefEqProofs only [go_sem, *])
  ((with_reducible refine exp_end ?_ ?_); (· decide +kernel); try simp -implicitDefEqProofs only [go_sem, *])
  exact fin_keep [2] (by simp) rfl (keep1 rfl (a2_I _ _)) (.of _ _ (.agg _ _ (.cons _ _ _ _ (.same _ rfl) (.cons _ _ _ _ (.same _ rfl) (.cons _ _ _ _ (.own _ _ _ _ _ rfl) .nil))))) ⟨rfl, rfl⟩
theorem copied_fn (p : Pg) (h0 : 0 < p.vals.length) (hb : p.vals.length < 1000000) : Fn1 Tryz.prog 156 [pA p] (pA p) := by
  refine fn1_of Tryz.func156 rfl rfl ?_
  simp -implicitDefEqProofs only [go_sem, Tryz.f156]
  ((with_reducible refine cp_draw2 (id := 1) 7 2 mixed ?_ ?_ ?_ ?_); (· decide +kernel); (· first | (simp only [List.all_cons, List.all_nil, List.length_cons, List.length_nil, Nat.reduceAdd, Nat.reduceLT, decide_true, Bool.and_true, Bool.and_self]; done) | rfl); (· rfl); try simp -implicitDefEqProofs only [go_sem, List.append_nil, *])
  (repeat' (first | ((with_reducible first | refine gon ?_ ?_ | refine gos ?_ ?_ | refine cdn ?_ ?_ | refine cds ?_ ?_ | refine gpn ?_ ?_ | refine gps ?_ ?_) <;> intro h <;> (try simp only [dt, df, gi, gt] at h) <;> try simp -implicitDefEqProofs only [go_sem, *]) | ((with_reducible refine And.intro ?_ ?_); (· first | omega | (simp only [List.length_take]; omega)); try simp -implicitDefEqProofs only [go_sem, *]) | ((with_reducible refine pre_made (Clone_own _ h0 ?_) ?_ ?_ ?_ ?_ ?_ ?_); (· (first | assumption | omega | (simp; omega))); (· rfl); (· intro n; simp only [go_sem, List.map_cons, List.map_nil, Nat.zero_add]); (· intro n; simp only [go_sem]); (· rfl); (· first | exact slt_I | exact slt_p | exact slt_r | rfl); try simp -implicitDefEqProofs only [go_sem, List.map_cons, List.map_nil, *])))
  ((with_reducible refine exp_one 7 ?_ ?_); (· decide +kernel); try simp -implicitDefEqProofs only [go_sem, *])
  ((with_reducible refine exp_one 8 ?_ ?_); (· decide +kernel); try simp -implicitDefEqProofs only [go_sem, *])
  ((with_reducible refine exp_end ?_ ?_); (· decide +kernel); try simp -implicitDefEqProofs only [go_sem, *])
  exact fin_1 (argT_pg (arg0_I rfl rfl))
theorem copies_own (ps : List Pg) (hb : ps.length < 1000000) (hv : ∀ p ∈ ps, 0 < p.vals.length ∧ p.vals.length < 1000000) : Fn Tryz.prog 132 [pgs ps] (fun r S => r = .own 0 3 0 ps.length ∧ S = [some ⟨3, ps.map pA⟩]) := by
  refine fn_of Tryz.func132 rfl rfl ?_
  simp -implicitDefEqProofs only [go_sem, Tryz.f132]
  refine cp_loop (fun i : Nat => ⟨(pgs ps :: .any :: nilS :: .own 0 3 0 i :: .any :: .any :: pgs ps :: I (ps.length : Int) :: I (i : Int) :: .any :: .any :: .any :: .any :: .any :: .any :: .any :: .any :: .any :: .any :: []), [some ⟨3, (ps.take i).map pA⟩], [0]⟩) (fun i => i ≤ ps.length) (fun i => ps.length - i) 0 ?_ ?_ ?_
  · simp
  · refine WkN.trans (wk_nil 3 3 (by omega) rfl) (WkN.trans (wk_tm ?_) (wk_mv (by simp))); simp only [List.set_cons_succ, List.set_cons_zero, List.length_nil, List.length_cons]; repeat (first | exact WL.nil | (with_reducible refine WL.any _ _ _ ?_) | (with_reducible refine WL.same _ _ _ ?_) | (refine WL.eq _ _ _ _ rfl ?_))
  · rintro i hi
    have hb' : i < 4611686018427387904 := by omega
    by_cases hil : i < ps.length
    · have hil' : (i : Int) < (ps.length : Int) := by omega
      have hc := copied_fn (at' ps (i : Int)) (hv _ (at_mem ps i hil)).1 (hv _ (at_mem ps i hil)).2
      simp -implicitDefEqProofs only [go_sem, hil', hb']
      (repeat' (first | ((with_reducible first | refine gon ?_ ?_ | refine gos ?_ ?_ | refine cdn ?_ ?_ | refine cds ?_ ?_ | refine gpn ?_ ?_ | refine gps ?_ ?_) <;> intro h <;> (try simp only [dt, df, gi, gt] at h) <;> try simp -implicitDefEqProofs only [go_sem, *]) | ((with_reducible refine And.intro ?_ ?_); (· first | omega | (simp only [List.length_take]; omega)); try simp -implicitDefEqProofs only [go_sem, *]) | ((with_reducible refine enter_pu (hc) ?_ ?_ ?_); (· rfl); (· rfl); try simp -implicitDefEqProofs only [go_sem, *])))
      rw [take_at ps i hil]
      refine ⟨i + 1, by omega, by omega, ?_⟩
      refine WkN.trans (WkN.trans (wk_tm ?_) (wk_trunc (S := [some ⟨3, (ps.take (i + 1)).map pA⟩]) (Nat.le_refl _) rfl (by first | rfl | (simp only [sltB, List.all_cons, List.all_nil, slt_p, slt_I, slt_r, Bool.and_true]; done) | (simp only [sltB, List.all_cons, List.all_nil, slt_p, slt_I, slt_r, Bool.and_true]; rfl)))) (wk_mv (by simp)); repeat (first | exact WL.nil | (with_reducible refine WL.any _ _ _ ?_) | (with_reducible refine WL.same _ _ _ ?_) | (refine WL.eq _ _ _ _ rfl ?_))
    · have hil' : ¬ (i : Int) < (ps.length : Int) := by omega
      have e : i = ps.length := by omega
      subst e
      simp -implicitDefEqProofs only [go_sem, hil']
      rw [List.take_length]
      exact fin_keep [0] (by simp) rfl (keep1 rfl (a2_p _ _)) (rt_own _ rfl) ⟨rfl, rfl⟩
theorem with_fn (p : Pg) (r : Rc) (hp : p.vals.length = 3) (hr : r.slot ≤ 2) : Fn1 Tryz.prog 134 [pA p, rA r] (pA (doP p r p.lsn)) := by
  have hcp := copied_own p (by omega) (by omega)
  refine fn1_of Tryz.func134 rfl rfl ?_
  by_cases h : 0 ≤ r.slot
  · have e : doP p r p.lsn = ⟨p.lsn, p.owner, p.vals.set r.slot.toNat r.new⟩ := by simp [doP, h]
    rw [e]
    simp -implicitDefEqProofs only [go_sem, Tryz.f134, h]
    (repeat' (first | ((with_reducible first | refine gon ?_ ?_ | refine gos ?_ ?_ | refine cdn ?_ ?_ | refine cds ?_ ?_ | refine gpn ?_ ?_ | refine gps ?_ ?_) <;> intro h <;> (try simp only [dt, df, gi, gt] at h) <;> try simp -implicitDefEqProofs only [go_sem, *]) | ((with_reducible refine And.intro ?_ ?_); (· first | omega | (simp only [List.length_take]; omega)); try simp -implicitDefEqProofs only [go_sem, *]) | ((with_reducible refine enter_fn (hcp) ?_ ?_); (· rfl); try simp -implicitDefEqProofs only [go_sem, *])))
    exact fin_1 (argT_pg (arg0_I rfl (by simp [hp])))
  · have e : doP p r p.lsn = ⟨p.lsn, r.new, if r.new = 0 then [0, 0, 0] else p.vals⟩ := by simp [doP, h]
    rw [e]
    by_cases hn : r.new = 0
    · rw [if_pos hn]
      simp -implicitDefEqProofs only [go_sem, Tryz.f134, h, hn]
      (repeat' (first | ((with_reducible first | refine gon ?_ ?_ | refine gos ?_ ?_ | refine cdn ?_ ?_ | refine cds ?_ ?_ | refine gpn ?_ ?_ | refine gps ?_ ?_) <;> intro h <;> (try simp only [dt, df, gi, gt] at h) <;> try simp -implicitDefEqProofs only [go_sem, *]) | ((with_reducible refine And.intro ?_ ?_); (· first | omega | (simp only [List.length_take]; omega)); try simp -implicitDefEqProofs only [go_sem, *]) | first | ((with_reducible refine enter_fn (hcp) ?_ ?_); (· rfl); try simp -implicitDefEqProofs only [go_sem, *]) | ((with_reducible refine cp_draw0 (id := 6) 5 mixed ?_ ?_); (· rfl); try simp -implicitDefEqProofs only [go_sem, List.append_nil, *]) | ((with_reducible refine exp_end ?_ ?_); (· decide +kernel); try simp -implicitDefEqProofs only [go_sem, *]) | ((with_reducible refine exp_one 0 ?_ ?_); (· decide +kernel); try simp -implicitDefEqProofs only [go_sem, *]) | ((with_reducible refine exp_one 1 ?_ ?_); (· decide +kernel); try simp -implicitDefEqProofs only [go_sem, *]) | ((with_reducible refine exp_one 2 ?_ ?_); (· decide +kernel); try simp -implicitDefEqProofs only [go_sem, *]) | ((with_reducible refine exp_one 3 ?_ ?_); (· decide +kernel); try simp -implicitDefEqProofs only [go_sem, *]) | ((with_reducible refine exp_one 4 ?_ ?_); (· decide +kernel); try simp -implicitDefEqProofs only [go_sem, *]) | ((with_reducible refine exp_two 0 1 ?_ ?_ ?_); (· decide +kernel); all_goals (try simp -implicitDefEqProofs only [go_sem, *])) | ((with_reducible refine exp_two 0 2 ?_ ?_ ?_); (· decide +kernel); all_goals (try simp -implicitDefEqProofs only [go_sem, *]))))
      all_goals exact fin_1 (argT_pg (arg0_I (l := [0, 0, 0]) rfl rfl))
    · rw [if_neg hn]
      have hn' : (r.new == 0) = false := by simpa using hn
      clear hn
      simp -implicitDefEqProofs only [go_sem, Tryz.f134, h, hn']
      (repeat' (first | ((with_reducible first | refine gon ?_ ?_ | refine gos ?_ ?_ | refine cdn ?_ ?_ | refine cds ?_ ?_ | refine gpn ?_ ?_ | refine gps ?_ ?_) <;> intro h <;> (try simp only [dt, df, gi, gt] at h) <;> try simp -implicitDefEqProofs only [go_sem, *]) | ((with_reducible refine And.intro ?_ ?_); (· first | omega | (simp only [List.length_take]; omega)); try simp -implicitDefEqProofs only [go_sem, *]) | ((with_reducible refine enter_fn (hcp) ?_ ?_); (· rfl); try simp -implicitDefEqProofs only [go_sem, *])))
      exact fin_1 (argT_pg (arg0_I rfl (by simp [hp])))
theorem IndexFunc_pg (l : List Pg) (g : FuncId) (caps : List AV) (pred : Pg → Bool) (hb : l.length < 4611686018427387904) (hc : caps.all AV.pu = true) (hc0 : caps.all AV.pur0 = true) (hg : ∀ p ∈ l, Fn1 Tryz.prog g (pA p :: caps) (Bo (pred p))) :
    Fn1 Tryz.prog 153 [pgs l, .clo g caps] (I (firstIdx (fun k => pred (at' l k)) 0 l.length)) := by
  refine fn1_of Tryz.func153 rfl rfl ?_
  simp -implicitDefEqProofs only [go_sem, Tryz.f153]
  refine cp_loop (fun i : Nat => ⟨(pgs l :: .clo g caps :: .any :: .any :: I 0 :: .any :: .any :: I (l.length : Int) :: I (i : Int) :: .any :: .any :: .any :: .any :: .any :: .any :: .any :: .any :: .any :: .any :: []), [], []⟩) (fun i => i ≤ l.length ∧ firstIdx (fun k => pred (at' l k)) i l.length = firstIdx (fun k => pred (at' l k)) 0 l.length) (fun i => l.length - i) 0 ?_ ?_ ?_
  · simp
  · refine wk_tm ?_; repeat (first | exact WL.nil | (with_reducible refine WL.any _ _ _ ?_) | (with_reducible refine WL.same _ _ _ ?_) | (refine WL.eq _ _ _ _ rfl ?_))
  · rintro i ⟨hi, hgi⟩
    have hb : i < 4611686018427387904 := by omega
    by_cases hil : i < l.length
    · have hil' : (i : Int) < (l.length : Int) := by omega
      have hgp := hg _ (at_mem l i hil)
      simp -implicitDefEqProofs only [go_sem, hil']
      (repeat' (first | ((with_reducible first | refine gon ?_ ?_ | refine gos ?_ ?_ | refine cdn ?_ ?_ | refine cds ?_ ?_ | refine gpn ?_ ?_ | refine gps ?_ ?_) <;> intro h <;> (try simp only [dt, df, gi, gt] at h) <;> try simp -implicitDefEqProofs only [go_sem, *]) | ((with_reducible refine And.intro ?_ ?_); (· first | omega | (simp only [List.length_take]; omega)); try simp -implicitDefEqProofs only [go_sem, *]) | ((with_reducible refine enter_pu hgp ?_ ?_ ?_); (· simp only [List.all_cons, hc]; rfl); (· rfl); try simp -implicitDefEqProofs only [go_sem, *])))
      all_goals first | ((with_reducible refine ⟨i + 1, ⟨by omega, ?_⟩, by omega, ?_⟩); (· (rw [← hgi, firstIdx_lt (by omega : i < l.length)]; first | done | (clear hgi; (simp_all [true_and]) <;> (first | omega | (rw [Bool.eq_iff_iff]; simp; done) | (rw [Bool.eq_iff_iff]; simp; omega) | (split <;> (first | rfl | omega | (simp_all; done))))))); (· refine wk_tm ?_; repeat (first | exact WL.nil | (with_reducible refine WL.any _ _ _ ?_) | (with_reducible refine WL.same _ _ _ ?_) | (refine WL.eq _ _ _ _ rfl ?_)))) | ((with_reducible refine fin_pu ?_ ?_); (· (rw [← hgi, firstIdx_lt (by omega : i < l.length)]; first | done | (clear hgi; (simp_all [true_and]) <;> (first | omega | (rw [Bool.eq_iff_iff]; simp; done) | (rw [Bool.eq_iff_iff]; simp; omega) | (split <;> (first | rfl | omega | (simp_all; done))))))); (· rfl)) | ((with_reducible refine fin_pu ?_ ?_); (· (rw [← hgi, firstIdx_ge (by omega : ¬ i < l.length)]; first | done | (clear hgi; (simp_all [true_and]) <;> (first | omega | (rw [Bool.eq_iff_iff]; simp; done) | (rw [Bool.eq_iff_iff]; simp; omega) | (split <;> (first | rfl | omega | (simp_all; done))))))); (· rfl))
    · have hil' : ¬ (i : Int) < (l.length : Int) := by omega
      simp -implicitDefEqProofs only [go_sem, hil']
      refine fin_pu ?_ rfl
      rw [← hgi, firstIdx_ge hil]
theorem ContainsFunc_pg (l : List Pg) (g : FuncId) (caps : List AV) (pred : Pg → Bool) (hb : l.length < 4611686018427387904) (hc : caps.all AV.pu = true) (hc0 : caps.all AV.pur0 = true) (hg : ∀ p ∈ l, Fn1 Tryz.prog g (pA p :: caps) (Bo (pred p))) :
    Fn1 Tryz.prog 128 [pgs l, .clo g caps] (Bo (anyFrom (fun k => pred (at' l k)) 0 l.length)) := by
  refine fn1_of Tryz.func128 rfl rfl ?_
  simp -implicitDefEqProofs only [go_sem, Tryz.f128]
  (repeat' (first | ((with_reducible first | refine gon ?_ ?_ | refine gos ?_ ?_ | refine cdn ?_ ?_ | refine cds ?_ ?_ | refine gpn ?_ ?_ | refine gps ?_ ?_) <;> intro h <;> (try simp only [dt, df, gi, gt] at h) <;> try simp -implicitDefEqProofs only [go_sem, *]) | ((with_reducible refine And.intro ?_ ?_); (· first | omega | (simp only [List.length_take]; omega)); try simp -implicitDefEqProofs only [go_sem, *]) | ((with_reducible refine enter_pu (IndexFunc_pg l g caps pred hb hc hc0 hg) ?_ ?_ ?_); (· simp only [List.all_cons, List.all_nil, AV.pu, hc0]; rfl); (· rfl); try simp -implicitDefEqProofs only [go_sem, *])))
  refine fin_pu ?_ rfl
  rw [← firstIdx_any]
theorem pagesOk1_fn (p : Pg) (hb : p.vals.length < 4611686018427387904) : Fn1 Tryz.prog 129 [pA p] (Bo (!p.ok)) := by
  refine fn1_of Tryz.func129 rfl rfl ?_
  simp -implicitDefEqProofs only [go_sem, Tryz.f129]
  (repeat' (first | ((with_reducible first | refine gon ?_ ?_ | refine gos ?_ ?_ | refine cdn ?_ ?_ | refine cds ?_ ?_ | refine gpn ?_ ?_ | refine gps ?_ ?_) <;> intro h <;> (try simp only [dt, df, gi, gt] at h) <;> try simp -implicitDefEqProofs only [go_sem, *]) | ((with_reducible refine And.intro ?_ ?_); (· first | omega | (simp only [List.length_take]; omega)); try simp -implicitDefEqProofs only [go_sem, *]) | ((with_reducible refine enter_pu (PageOkI_fn p ?_) ?_ ?_ ?_); (· (first | assumption | omega | (simp; omega))); (· rfl); (· rfl); try simp -implicitDefEqProofs only [go_sem, *])))
  all_goals try ((with_reducible refine fin_pu ?_ ?_); (· (simp_all [true_and]) <;> (first | omega | (rw [Bool.eq_iff_iff]; simp; done) | (rw [Bool.eq_iff_iff]; simp; omega) | (split <;> (first | rfl | omega | (simp_all; done))))); (· rfl))
theorem pgsOk_any (ps : List Pg) : pgsOk ps = (decide (ps.length = 5) && !anyFrom (fun k => !(at' ps k).ok) 0 ps.length) := by
  unfold pgsOk
  rw [Bool.and_comm]
  congr 1
  rw [Bool.eq_iff_iff, allFrom_iff, Bool.not_eq_true', ← Bool.not_eq_true, anyFrom_iff]
  constructor
  · rintro h ⟨k, h1, h2, h3⟩
    rw [h k h1 h2] at h3
    cases h3
  · intro h k h1 h2
    apply Classical.byContradiction
    intro hn
    exact h ⟨k, h1, h2, by simpa using hn⟩
theorem pagesOk_fn (ps : List Pg) (hb : ps.length < 4611686018427387904) (hv : ∀ p ∈ ps, p.vals.length < 4611686018427387904) : Fn1 Tryz.prog 86 [pgs ps] (Bo (pgsOk ps)) := by
  refine fn1_of Tryz.func86 rfl rfl ?_
  simp -implicitDefEqProofs only [go_sem, Tryz.f86]
  (repeat' (first | ((with_reducible first | refine gon ?_ ?_ | refine gos ?_ ?_ | refine cdn ?_ ?_ | refine cds ?_ ?_ | refine gpn ?_ ?_ | refine gps ?_ ?_) <;> intro h <;> (try simp only [dt, df, gi, gt] at h) <;> try simp -implicitDefEqProofs only [go_sem, *]) | ((with_reducible refine And.intro ?_ ?_); (· first | omega | (simp only [List.length_take]; omega)); try simp -implicitDefEqProofs only [go_sem, *]) | ((with_reducible refine enter_pu (ContainsFunc_pg ps _ [] (fun p => !p.ok) hb rfl rfl (fun p hp => pagesOk1_fn p (hv p hp))) ?_ ?_ ?_); (· rfl); (· rfl); try simp -implicitDefEqProofs only [go_sem, *])))
  · refine fin_pu ?_ rfl
    rw [pgsOk_any]
    have h5 : ps.length = 5 := by simp at h; omega
    simp [h5]
  · refine fin_pu ?_ rfl
    have h5 : ps.length ≠ 5 := by simp at h; omega
    simp [pgsOk, h5]
theorem doP_at (p : Pg) (r : Rc) (a n : Int) : (⟨n, (doP p r a).owner, (doP p r a).vals⟩ : Pg) = doP p r n := by unfold doP; split <;> rfl
theorem redoI_own (ps : List Pg) (l : List Rc) (hp : Sz ps) (hw : Wf l) : Fn Tryz.prog 89 [pgs ps, recs l] (fun r S => r = .tup [.own 0 3 0 5, Bo (pgsOk (redoTo ps l l.length))] ∧ S = [some ⟨3, (redoTo ps l l.length).map pA⟩]) := by
  have hlen := hw.len
  have hp5 := hp.len
  have hcp := copies_own ps (by omega) (fun p hm => by obtain ⟨k, hk, rfl⟩ := mem_at hm; rw [hp.sz k (by omega)]; omega)
  rw [hp5] at hcp
  refine fn_of Tryz.func89 rfl rfl ?_
  simp -implicitDefEqProofs only [go_sem, Tryz.f89]
  (repeat' (first | ((with_reducible first | refine gon ?_ ?_ | refine gos ?_ ?_ | refine cdn ?_ ?_ | refine cds ?_ ?_ | refine gpn ?_ ?_ | refine gps ?_ ?_) <;> intro h <;> (try simp only [dt, df, gi, gt] at h) <;> try simp -implicitDefEqProofs only [go_sem, *]) | ((with_reducible refine And.intro ?_ ?_); (· first | omega | (simp only [List.length_take]; omega)); try simp -implicitDefEqProofs only [go_sem, *]) | ((with_reducible refine enter_fn (hcp) ?_ ?_); (· rfl); try simp -implicitDefEqProofs only [go_sem, *])))
  refine cp_loop (fun i : Nat => ⟨(pgs ps :: recs l :: .any :: .any :: nilS :: Bo false :: .own 0 3 0 5 :: .any :: .any :: .any :: .any :: .any :: recs l :: I (l.length : Int) :: I (i : Int) :: .any :: .any :: .any :: .any :: .any :: .any :: .any :: .any :: .any :: .any :: .any :: .any :: .any :: .any :: .any :: .any :: .any :: .any :: .any :: .any :: .any :: .any :: .any :: .any :: .any :: .any :: .any :: .any :: .any :: .any :: .any :: .any :: .any :: .any :: .any :: .any :: .any :: []), [some ⟨3, (redoTo ps l i).map pA⟩], []⟩) (fun i => i ≤ l.length) (fun i => l.length - i) 0 ?_ ?_ ?_
  · simp
  · refine wk_tm ?_; repeat (first | exact WL.nil | (with_reducible refine WL.any _ _ _ ?_) | (with_reducible refine WL.same _ _ _ ?_) | (refine WL.eq _ _ _ _ rfl ?_))
  · rintro i hi
    have hb' : i < 4611686018427387904 := by omega
    by_cases hil : i < l.length
    · have hil' : (i : Int) < (l.length : Int) := by omega
      have hs := redoTo_sz hp hw i hi
      have hs5 := hs.len
      have hok := hw.rok i hil
      obtain ⟨m, hm, hpg⟩ := Rc.ok_page hok
      have hsl := Rc.ok_slot hok
      have hsz : (at' (redoTo ps l i) (at' l (i : Int)).page).vals.length = 3 := by rw [hpg]; exact hs.sz m (by omega)
      have h0 : 0 ≤ (at' l (i : Int)).page := by omega
      have h4 : (at' l (i : Int)).page ≤ 4 := by omega
      clear hpg
      have hwi := with_fn (at' (redoTo ps l i) (at' l (i : Int)).page) (at' l (i : Int)) hsz hsl.2
      simp -implicitDefEqProofs only [go_sem, h0, hil', hb']
      (repeat' (first | ((with_reducible first | refine gon ?_ ?_ | refine gos ?_ ?_ | refine cdn ?_ ?_ | refine cds ?_ ?_ | refine gpn ?_ ?_ | refine gps ?_ ?_) <;> intro h <;> (try simp only [dt, df, gi, gt] at h) <;> try simp -implicitDefEqProofs only [go_sem, *]) | ((with_reducible refine And.intro ?_ ?_); (· first | omega | (simp only [List.length_take]; omega)); try simp -implicitDefEqProofs only [go_sem, *]) | first | ((with_reducible refine enter_pu (changes_fn _) ?_ ?_ ?_); (· rfl); (· rfl); try simp -implicitDefEqProofs only [go_sem, *]) | ((with_reducible refine cp_draw (id := 6) 8 mixed ?_ ?_ ?_); (· decide +kernel); (· first | (simp only [List.all_cons, List.all_nil, List.length_cons, List.length_nil, Nat.reduceAdd, Nat.reduceLT, decide_true, Bool.and_true, Bool.and_self]; done) | rfl); try simp -implicitDefEqProofs only [go_sem, *]) | ((with_reducible refine pre_enter _ (det_pu (hwi) ?_ ?_) ?_ ?_); (· rfl); (· rfl); (· rfl); try simp -implicitDefEqProofs only [go_sem, *])))
      · have e : redoTo ps l (i + 1) = redoTo ps l i := if_neg (by simp_all)
        refine ⟨i + 1, by omega, by omega, ?_⟩
        rw [e]
        refine WkN.trans (wk_tm ?_) (wk_trunc (S := [some ⟨3, _⟩]) (Nat.le_refl _) rfl (by first | rfl | (simp only [sltB, List.all_cons, List.all_nil, slt_p, slt_I, slt_r, Bool.and_true]; done) | (simp only [sltB, List.all_cons, List.all_nil, slt_p, slt_I, slt_r, Bool.and_true]; rfl))); repeat (first | exact WL.nil | (with_reducible refine WL.any _ _ _ ?_) | (with_reducible refine WL.same _ _ _ ?_) | (refine WL.eq _ _ _ _ rfl ?_))
      · rename_i h2
        have e : redoTo ps l (i + 1) = (redoTo ps l i).set (at' l (i : Int)).page.toNat ⟨((i + 1 : Nat) : Int), (doP (at' (redoTo ps l i) (at' l (i : Int)).page) (at' l (i : Int)) (at' (redoTo ps l i) (at' l (i : Int)).page).lsn).owner, (doP (at' (redoTo ps l i) (at' l (i : Int)).page) (at' l (i : Int)) (at' (redoTo ps l i) (at' l (i : Int)).page).lsn).vals⟩ := by
          rw [doP_at]
          exact if_pos ⟨h2, by omega⟩
        refine ⟨i + 1, by omega, by omega, ?_⟩
        rw [e]
        refine WkN.trans (wk_tm ?_) (wk_trunc (S := [some ⟨3, _⟩]) (Nat.le_refl _) rfl (by first | rfl | (simp only [sltB, List.all_cons, List.all_nil, slt_p, slt_I, slt_r, Bool.and_true]; done) | (simp only [sltB, List.all_cons, List.all_nil, slt_p, slt_I, slt_r, Bool.and_true]; rfl))); repeat (first | exact WL.nil | (with_reducible refine WL.any _ _ _ ?_) | (with_reducible refine WL.same _ _ _ ?_) | (refine WL.eq _ _ _ _ rfl ?_))
      · have e : redoTo ps l (i + 1) = redoTo ps l i := if_neg (by simp_all)
        refine ⟨i + 1, by omega, by omega, ?_⟩
        rw [e]
        refine WkN.trans (wk_tm ?_) (wk_trunc (S := [some ⟨3, _⟩]) (Nat.le_refl _) rfl (by first | rfl | (simp only [sltB, List.all_cons, List.all_nil, slt_p, slt_I, slt_r, Bool.and_true]; done) | (simp only [sltB, List.all_cons, List.all_nil, slt_p, slt_I, slt_r, Bool.and_true]; rfl))); repeat (first | exact WL.nil | (with_reducible refine WL.any _ _ _ ?_) | (with_reducible refine WL.same _ _ _ ?_) | (refine WL.eq _ _ _ _ rfl ?_))
    · have hil' : ¬ ((i : Int) < (l.length : Int)) := by omega
      have e : i = l.length := by omega
      subst e
      have hs := redoTo_sz hp hw l.length (Nat.le_refl _)
      have hs5 := hs.len
      have hgd := pagesOk_fn (redoTo ps l l.length) (by omega) (fun p hm => by obtain ⟨k, hk, rfl⟩ := mem_at hm; rw [hs.sz k (by omega)]; omega)
      simp -implicitDefEqProofs only [go_sem, hil']
      refine enter_own hgd (.cons _ _ _ _ (.of1 _ _ (.of0 _ _ (arg0_p rfl hs5.symm))) .nil) rfl rfl ?_
      simp -implicitDefEqProofs only [go_sem, true_and]
      exact fin_keep [0] (by simp) rfl (keep1 rfl (a2_p _ _)) (.tup _ _ (.cons _ _ _ _ (.of _ _ (.own _ _ _ _ _ rfl)) (.cons _ _ _ _ (.of _ _ (.same _ rfl)) .nil))) ⟨rfl, rfl⟩
end Go.Proofs.YtfcnajhanjhonaaGreat.Am
end
section
set_option linter.unusedVariables false
set_option linter.unusedSimpArgs false
set_option maxRecDepth 100000
set_option maxHeartbeats 8000000
namespace Go.Proofs.YtfcnajhanjhonaaGreat.Am
open Go Go.RowKit Go.Proofs
attribute [local go_sem_proc] Nat.reduceAdd Nat.reduceSub Nat.reduceMul Nat.reduceLT Nat.reduceLeDiff Nat.reduceEqDiff Int.reduceBEq Int.reduceBNe Int.reduceNeg Int.reduceSub Int.reduceLE Int.reduceLT
attribute [local go_sem_proc ↓] reduceIte
attribute [local congr] opsP_congr codeP_congr AWP_congr afterR_congr preP_congr afterPre_congr gPre_congr gOps_congr condP_congr stepE_congr
attribute [local go_sem] ty_int ty_bool ty_str ty_u8 ty_ints ty_bytes ty_page ty_pages ty_lpage ty_lpages ty_rec ty_recs ty_lrec ty_lrecs ty_eng ty_leng
attribute [local go_sem] true_and and_true beq_true' beq_false' toNat_cast Int.natCast_nonneg Bool.not_not Bool.not_true Bool.not_false decide_true decide_false Bool.or_false Bool.false_or Bool.or_true Bool.true_or Bool.and_false Bool.false_and Nat.zero_add Int.toNat_of_nonneg wrap_succ wrap_m1 wrap_nat succ_m1 cast0 succ_pos' succ_ne' succ_bne' ge_iff_le gt_iff_lt if_true if_false
attribute [local go_sem] ty_arr4
theorem toNat_1 : Int.toNat 1 = 1 := rfl
theorem toNat_2 : Int.toNat 2 = 2 := rfl
theorem toNat_3 : Int.toNat 3 = 3 := rfl
attribute [local go_sem] toNat_1 toNat_2 toNat_3
/-- The contract of impl.RecOk (proved elsewhere). -/
abbrev RecC : Prop := ∀ r : Rc, Fn1 Tryz.prog 118 [rA r] (Bo r.ok)
theorem Rc.ok_tx {r : Rc} (h : r.ok = true) : r.tx = 1 ∨ r.tx = 2 ∨ r.tx = 3 := by
  unfold Rc.ok isIn at h
  simp only [Bool.and_eq_true, decide_eq_true_eq] at h
  omega
theorem leafF {a b X : Bool} (hg : (a && b) = X) (h : a = false) : AV.prim (.bool false) = Bo X := by rw [← hg, h]; rfl
theorem leafT {a b X : Bool} (hg : (a && b) = X) (h : a = true) : b = X := by rw [← hg, h]; rfl
theorem LogOkI_fn (hrc : RecC) (l : List Rc) (hb : l.length < 4611686018427387904) : Fn1 Tryz.prog 71 [recs l] (Bo (logOk l)) := by
  refine fn1_of Tryz.func71 rfl rfl ?_
  by_cases hlen : l.length ≤ 150
  rotate_left
  · have hlen' : (150 : Int) < (l.length : Int) := by omega
    simp -implicitDefEqProofs only [go_sem, Tryz.f71, hlen']
    (repeat' (first | ((with_reducible first | refine gon ?_ ?_ | refine gos ?_ ?_ | refine cdn ?_ ?_ | refine cds ?_ ?_ | refine gpn ?_ ?_ | refine gps ?_ ?_) <;> intro h <;> (try simp only [dt, df, gi, gt] at h) <;> try simp -implicitDefEqProofs only [go_sem, *]) | ((with_reducible refine And.intro ?_ ?_); (· first | omega | (simp only [List.length_take]; omega)); try simp -implicitDefEqProofs only [go_sem, *]) | fail))
    refine fin_pu ?_ rfl
    simp [logOk, show ¬ l.length ≤ 150 from hlen]
  have hlen' : ¬ (150 : Int) < (l.length : Int) := by omega
  simp -implicitDefEqProofs only [go_sem, Tryz.f71, hlen']
  (repeat' (first | ((with_reducible first | refine gon ?_ ?_ | refine gos ?_ ?_ | refine cdn ?_ ?_ | refine cds ?_ ?_ | refine gpn ?_ ?_ | refine gps ?_ ?_) <;> intro h <;> (try simp only [dt, df, gi, gt] at h) <;> try simp -implicitDefEqProofs only [go_sem, *]) | ((with_reducible refine And.intro ?_ ?_); (· first | omega | (simp only [List.length_take]; omega)); try simp -implicitDefEqProofs only [go_sem, *]) | fail))
  refine cp_loop (fun i : Nat => ⟨(recs l :: .any :: Bo false :: .ref 0 4 0 0 :: .any :: .any :: .any :: .any :: .any :: recs l :: I (l.length : Int) :: I (i : Int) :: .any :: .any :: .any :: .any :: .any :: .any :: .any :: .any :: .any :: .any :: .any :: .any :: .any :: .any :: .any :: .any :: .any :: .any :: .any :: .any :: .any :: .any :: .any :: .any :: .any :: .any :: .any :: .any :: .any :: .any :: .any :: .any :: .any :: .any :: .any :: .any :: .any :: .any :: .any :: .any :: .any :: .any :: .any :: .any :: .any :: .any :: .any :: .any :: .any :: .any :: []), [some ⟨4, [.agg [I 0, I (lastTo l 1 i), I (lastTo l 2 i), I (lastTo l 3 i)]]⟩], []⟩) (fun i => i ≤ l.length ∧ allFrom (stepOk l) i l.length = logOk l) (fun i => l.length - i) 0 ?_ ?_ ?_
  · exact ⟨by omega, by simp [logOk, hlen]⟩
  · refine wk_tm ?_; repeat (first | exact WL.nil | (with_reducible refine WL.any _ _ _ ?_) | (with_reducible refine WL.same _ _ _ ?_) | (refine WL.eq _ _ _ _ rfl ?_))
  · rintro i ⟨hi, hg⟩
    have hb : i < 4611686018427387904 := by omega
    by_cases hil : i < l.length
    rotate_left
    · have hil' : ¬ (i : Int) < (l.length : Int) := by omega
      rw [allFrom_ge hil] at hg
      simp -implicitDefEqProofs only [go_sem, hil']
      refine fin_pu ?_ rfl
      rw [← hg]
    have hil' : (i : Int) < (l.length : Int) := by omega
    rw [allFrom_lt hil] at hg
    rcases hok : (at' l (i : Int)).ok with _ | _
    · have hr := hrc (at' l (i : Int))
      simp -implicitDefEqProofs only [go_sem, hil']
      (repeat' (first | ((with_reducible first | refine gon ?_ ?_ | refine gos ?_ ?_ | refine cdn ?_ ?_ | refine cds ?_ ?_ | refine gpn ?_ ?_ | refine gps ?_ ?_) <;> intro h <;> (try simp only [dt, df, gi, gt] at h) <;> try simp -implicitDefEqProofs only [go_sem, *]) | ((with_reducible refine And.intro ?_ ?_); (· first | omega | (simp only [List.length_take]; omega)); try simp -implicitDefEqProofs only [go_sem, *]) | first | ((with_reducible refine pre_enter _ (det_pu (hr) ?_ ?_) ?_ ?_); (· rfl); (· rfl); (· rfl); try simp -implicitDefEqProofs only [go_sem, *]) | ((with_reducible refine cp_draw (id := 7) 35 mixed ?_ ?_ ?_); (· decide +kernel); (· first | (simp only [List.all_cons, List.all_nil, List.length_cons, List.length_nil, Nat.reduceAdd, Nat.reduceLT, decide_true, Bool.and_true, Bool.and_self]; done) | rfl); try simp -implicitDefEqProofs only [go_sem, *])))
      refine fin_pu ?_ rfl
      rw [← hg, stepOk, hok]
      rfl
    · have htx := Rc.ok_tx hok
      have hnx := Rc.ok_next hok
      have hr : ∀ t, t = (at' l (i : Int)).tx → Fn1 Tryz.prog 118 [.agg [I (at' l (i : Int)).kind, I t, I (at' l (i : Int)).page, I (at' l (i : Int)).slot, I (at' l (i : Int)).old, I (at' l (i : Int)).new, I (at' l (i : Int)).prev, I (at' l (i : Int)).next]] (Bo true) := by
        rintro t rfl
        have := hrc (at' l (i : Int))
        rwa [hok] at this
      have he : ∀ t, t = (at' l (i : Int)).tx → Fn1 Tryz.prog 119 [.agg [I (at' l (i : Int)).kind, I t, I (at' l (i : Int)).page, I (at' l (i : Int)).slot, I (at' l (i : Int)).old, I (at' l (i : Int)).new, I (at' l (i : Int)).prev, I (at' l (i : Int)).next]] (Bo (at' l (i : Int)).ends) := by
        rintro t rfl
        exact ends_fn (at' l (i : Int))
      rcases htx with htx | htx | htx
      · have hr' := hr 1 htx.symm
        have he' := he 1 htx.symm
        clear hr he
        simp -implicitDefEqProofs only [go_sem, hil']
        (repeat' (first | ((with_reducible first | refine gon ?_ ?_ | refine gos ?_ ?_ | refine cdn ?_ ?_ | refine cds ?_ ?_ | refine gpn ?_ ?_ | refine gps ?_ ?_) <;> intro h <;> (try simp only [dt, df, gi, gt] at h) <;> try simp -implicitDefEqProofs only [go_sem, *]) | ((with_reducible refine And.intro ?_ ?_); (· first | omega | (simp only [List.length_take]; omega)); try simp -implicitDefEqProofs only [go_sem, *]) | first | ((with_reducible refine pre_enter _ (det_pu (hr') ?_ ?_) ?_ ?_); (· rfl); (· rfl); (· rfl); try simp -implicitDefEqProofs only [go_sem, *]) | ((with_reducible refine cp_draw (id := 7) 35 mixed ?_ ?_ ?_); (· decide +kernel); (· first | (simp only [List.all_cons, List.all_nil, List.length_cons, List.length_nil, Nat.reduceAdd, Nat.reduceLT, decide_true, Bool.and_true, Bool.and_self]; done) | rfl); try simp -implicitDefEqProofs only [go_sem, *]) | ((rw [wrap_ok (n := (at' l (i : Int)).next - 1) (by omega) (by omega)]); try simp -implicitDefEqProofs only [go_sem, *]) | ((with_reducible refine enter_pu (he') ?_ ?_ ?_); (· rfl); (· rfl); try simp -implicitDefEqProofs only [go_sem, *])))
        all_goals first
          | (refine fin_pu ?_ rfl
             refine leafF hg ?_
             unfold stepOk
             clear hg hr' he'
             simp_all
             done)
          | (refine fin_pu ?_ rfl
             refine leafF hg ?_
             unfold stepOk
             clear hg hr' he'
             simp_all
             omega)
          | (refine ⟨i + 1, ⟨by omega, ?_⟩, by omega, ?_⟩
             · refine (leafT hg ?_)
               unfold stepOk
               clear hg hr' he'
               simp_all
               try omega
             · simp only [lastTo, htx, h, Int.reduceEq, if_true, if_false, Bool.false_eq_true]
               refine WkN.trans (wk_tm ?_) (wk_trunc (S := [some ⟨4, [.agg [I 0, _, _, _]]⟩]) (Nat.le_refl _) rfl (by first | rfl | (simp only [sltB, List.all_cons, List.all_nil, slt_p, slt_I, slt_r, Bool.and_true]; done) | (simp only [sltB, List.all_cons, List.all_nil, slt_p, slt_I, slt_r, Bool.and_true]; rfl))); repeat (first | exact WL.nil | (with_reducible refine WL.any _ _ _ ?_) | (with_reducible refine WL.same _ _ _ ?_) | (refine WL.eq _ _ _ _ rfl ?_)))
      · have hr' := hr 2 htx.symm
        have he' := he 2 htx.symm
        clear hr he
        simp -implicitDefEqProofs only [go_sem, hil']
        (repeat' (first | ((with_reducible first | refine gon ?_ ?_ | refine gos ?_ ?_ | refine cdn ?_ ?_ | refine cds ?_ ?_ | refine gpn ?_ ?_ | refine gps ?_ ?_) <;> intro h <;> (try simp only [dt, df, gi, gt] at h) <;> try simp -implicitDefEqProofs only [go_sem, *]) | ((with_reducible refine And.intro ?_ ?_); (· first | omega | (simp only [List.length_take]; omega)); try simp -implicitDefEqProofs only [go_sem, *]) | first | ((with_reducible refine pre_enter _ (det_pu (hr') ?_ ?_) ?_ ?_); (· rfl); (· rfl); (· rfl); try simp -implicitDefEqProofs only [go_sem, *]) | ((with_reducible refine cp_draw (id := 7) 35 mixed ?_ ?_ ?_); (· decide +kernel); (· first | (simp only [List.all_cons, List.all_nil, List.length_cons, List.length_nil, Nat.reduceAdd, Nat.reduceLT, decide_true, Bool.and_true, Bool.and_self]; done) | rfl); try simp -implicitDefEqProofs only [go_sem, *]) | ((rw [wrap_ok (n := (at' l (i : Int)).next - 1) (by omega) (by omega)]); try simp -implicitDefEqProofs only [go_sem, *]) | ((with_reducible refine enter_pu (he') ?_ ?_ ?_); (· rfl); (· rfl); try simp -implicitDefEqProofs only [go_sem, *])))
        all_goals first
          | (refine fin_pu ?_ rfl
             refine leafF hg ?_
             unfold stepOk
             clear hg hr' he'
             simp_all
             done)
          | (refine fin_pu ?_ rfl
             refine leafF hg ?_
             unfold stepOk
             clear hg hr' he'
             simp_all
             omega)
          | (refine ⟨i + 1, ⟨by omega, ?_⟩, by omega, ?_⟩
             · refine (leafT hg ?_)
               unfold stepOk
               clear hg hr' he'
               simp_all
               try omega
             · simp only [lastTo, htx, h, Int.reduceEq, if_true, if_false, Bool.false_eq_true]
               refine WkN.trans (wk_tm ?_) (wk_trunc (S := [some ⟨4, [.agg [I 0, _, _, _]]⟩]) (Nat.le_refl _) rfl (by first | rfl | (simp only [sltB, List.all_cons, List.all_nil, slt_p, slt_I, slt_r, Bool.and_true]; done) | (simp only [sltB, List.all_cons, List.all_nil, slt_p, slt_I, slt_r, Bool.and_true]; rfl))); repeat (first | exact WL.nil | (with_reducible refine WL.any _ _ _ ?_) | (with_reducible refine WL.same _ _ _ ?_) | (refine WL.eq _ _ _ _ rfl ?_)))
      · have hr' := hr 3 htx.symm
        have he' := he 3 htx.symm
        clear hr he
        simp -implicitDefEqProofs only [go_sem, hil']
        (repeat' (first | ((with_reducible first | refine gon ?_ ?_ | refine gos ?_ ?_ | refine cdn ?_ ?_ | refine cds ?_ ?_ | refine gpn ?_ ?_ | refine gps ?_ ?_) <;> intro h <;> (try simp only [dt, df, gi, gt] at h) <;> try simp -implicitDefEqProofs only [go_sem, *]) | ((with_reducible refine And.intro ?_ ?_); (· first | omega | (simp only [List.length_take]; omega)); try simp -implicitDefEqProofs only [go_sem, *]) | first | ((with_reducible refine pre_enter _ (det_pu (hr') ?_ ?_) ?_ ?_); (· rfl); (· rfl); (· rfl); try simp -implicitDefEqProofs only [go_sem, *]) | ((with_reducible refine cp_draw (id := 7) 35 mixed ?_ ?_ ?_); (· decide +kernel); (· first | (simp only [List.all_cons, List.all_nil, List.length_cons, List.length_nil, Nat.reduceAdd, Nat.reduceLT, decide_true, Bool.and_true, Bool.and_self]; done) | rfl); try simp -implicitDefEqProofs only [go_sem, *]) | ((rw [wrap_ok (n := (at' l (i : Int)).next - 1) (by omega) (by omega)]); try simp -implicitDefEqProofs only [go_sem, *]) | ((with_reducible refine enter_pu (he') ?_ ?_ ?_); (· rfl); (· rfl); try simp -implicitDefEqProofs only [go_sem, *])))
        all_goals first
          | (refine fin_pu ?_ rfl
             refine leafF hg ?_
             unfold stepOk
             clear hg hr' he'
             simp_all
             done)
          | (refine fin_pu ?_ rfl
             refine leafF hg ?_
             unfold stepOk
             clear hg hr' he'
             simp_all
             omega)
          | (refine ⟨i + 1, ⟨by omega, ?_⟩, by omega, ?_⟩
             · refine (leafT hg ?_)
               unfold stepOk
               clear hg hr' he'
               simp_all
               try omega
             · simp only [lastTo, htx, h, Int.reduceEq, if_true, if_false, Bool.false_eq_true]
               refine WkN.trans (wk_tm ?_) (wk_trunc (S := [some ⟨4, [.agg [I 0, _, _, _]]⟩]) (Nat.le_refl _) rfl (by first | rfl | (simp only [sltB, List.all_cons, List.all_nil, slt_p, slt_I, slt_r, Bool.and_true]; done) | (simp only [sltB, List.all_cons, List.all_nil, slt_p, slt_I, slt_r, Bool.and_true]; rfl))); repeat (first | exact WL.nil | (with_reducible refine WL.any _ _ _ ?_) | (with_reducible refine WL.same _ _ _ ?_) | (refine WL.eq _ _ _ _ rfl ?_)))
end Go.Proofs.YtfcnajhanjhonaaGreat.Am
end
section
set_option linter.unusedVariables false
set_option linter.unusedSimpArgs false
set_option maxRecDepth 100000
set_option maxHeartbeats 8000000
namespace Go.Proofs.YtfcnajhanjhonaaGreat.Am
open Go Go.RowKit Go.Proofs
attribute [local go_sem_proc] Nat.reduceAdd Nat.reduceSub Nat.reduceMul Nat.reduceLT Nat.reduceLeDiff Nat.reduceEqDiff Int.reduceBEq Int.reduceBNe Int.reduceNeg Int.reduceSub Int.reduceLE Int.reduceLT
attribute [local go_sem_proc ↓] reduceIte
attribute [local congr] opsP_congr codeP_congr AWP_congr afterR_congr preP_congr afterPre_congr gPre_congr gOps_congr condP_congr stepE_congr
attribute [local go_sem] ty_int ty_bool ty_str ty_u8 ty_ints ty_bytes ty_page ty_pages ty_lpage ty_lpages ty_rec ty_recs ty_lrec ty_lrecs ty_eng ty_leng
attribute [local go_sem] true_and and_true beq_true' beq_false' toNat_cast Int.natCast_nonneg Bool.not_not Bool.not_true Bool.not_false decide_true decide_false Bool.or_false Bool.false_or Bool.or_true Bool.true_or Bool.and_false Bool.false_and Nat.zero_add Int.toNat_of_nonneg wrap_succ wrap_m1 wrap_nat succ_m1 cast0 succ_pos' succ_ne' succ_bne' ge_iff_le gt_iff_lt if_true if_false
section
/-- Some transactions undone, one behind the other. -/
def undoL (l : List Rc) : List Pg → List Int → Option (List Pg)
  | q, [] => some q
  | q, tx :: r => (undoAll l q (undosN l (lastN l tx))).bind fun q' => undoL l q' r
theorem undoL_app (l : List Rc) : ∀ (xs ys : List Int) (q : List Pg), undoL l q (xs ++ ys) = (undoL l q xs).bind fun q' => undoL l q' ys
  | [], ys, q => rfl
  | tx :: r, ys, q => by
    simp only [List.cons_append, undoL, Option.bind_assoc]
    congr 1
    funext q'
    exact undoL_app l r ys q'
theorem undoL_step (l : List Rc) (q : List Pg) (t : Nat) : undoL l q (openTo l (t + 1)) = (undoL l q (openTo l t)).bind fun q' => undoAll l q' (undosN l (lastN l ((t + 1 : Nat) : Int))) := by
  rw [openTo]
  split
  · rename_i h
    rw [h, undosN_zero (backN_zero l)]
    cases undoL l q (openTo l t) <;> rfl
  · rw [undoL_app]
    congr 1
    funext q'
    simp [undoL]
theorem undoL_open (l : List Rc) (q : List Pg) : undoL l q (openTo l 3) = undoFrom l q 0 := by
  rw [undoL_step, undoL_step, undoL_step, undoFrom_lt (by omega)]
  simp only [openTo, undoL, Option.bind_assoc, Option.bind_some]
  congr 1
  funext q1
  rw [undoFrom_lt (by omega)]
  congr 1
  funext q2
  rw [undoFrom_lt (by omega)]
  cases undoAll l q2 (undosN l (lastN l ((2 + 1 : Nat) : Int))) with
  | none => rfl
  | some q3 => simp [undoFrom_ge (show ¬ 3 < 3 by omega)]
theorem undosN_mem {l : List Rc} (hw : Wf l) {n : Nat} : ∀ m, m ≤ l.length → n ∈ undosN l m → ∃ b, n = b + 1 ∧ b < l.length := by
  intro m
  induction m using Nat.strongRecOn with
  | _ m ih =>
    intro hm h
    have hle := backN_le l m
    rcases hb : backN l m with _ | b
    · rw [undosN_zero hb] at h; cases h
    · obtain ⟨p, hp, hpv⟩ := hw.prev b (by omega)
      rw [undosN_succ hb hpv hp] at h
      rcases List.mem_cons.1 h with rfl | h
      · exact ⟨b, rfl, by omega⟩
      · exact ih p (by omega) (by omega) h
theorem at_mapN (us : List Nat) (j : Nat) (h : j < us.length) : at' (us.map fun n : Nat => (n : Int)) (j : Int) = ((at' us (j : Int) : Nat) : Int) := by
  simp [at', List.getD, List.getElem?_eq_getElem h]
/-- A function's end that keeps the first objects alone. -/
theorem fin_trunc {n0 : Nat} {r : AV} {S T : Store} {mv : List Nat} {Q : AV → Store → List Nat → Prop} (hn : n0 ≤ S.length) (h1 : r.ltB S.length = true) (h2 : sltB S.length S = true) (h : Q r S mv) : Fin n0 r (S ++ T) mv Q := by
  refine ⟨r, S, mv, h, fun ok w0 μ0 S0 μ a w v tm h0 hr hv => ⟨μ, ?_, hv.trunc (ltB_spec h1), fun b hb hl => hr.lv b hb (live_app hl), by omega, hr.mu⟩⟩
  unfold sltB at h2
  rw [List.all_eq_true] at h2
  have hg : ∀ (i : Nat) (o : AObj), S[i]? = some (some o) → (S ++ T)[i]? = some (some o) := fun i o hi => by rw [List.getElem?_append_left (List.getElem?_eq_some_iff.1 hi).1]; exact hi
  refine ⟨?_, fun i o hi => hr.rs.siz i o (hg i o hi), fun i j oi oj hi hj => hr.rs.inj i j oi oj (hg i oi hi) (hg j oj hj)⟩
  intro i o hi hne
  obtain ⟨cs, ty, hb, hs, hc⟩ := hr.rs.blk i o (hg i o hi) hne
  refine ⟨cs, ty, hb, hs, fun k x j y hk hj => ?_⟩
  obtain ⟨v, hv, hv'⟩ := hc k x j y hk hj
  have := h2 (some o) (List.mem_of_getElem? hi)
  simp only [List.all_eq_true] at this
  exact ⟨v, hv, hv'.trunc (lt1_spec (this x (List.mem_of_getElem? hk) y (List.mem_of_getElem? hj)))⟩
theorem Hid.mk' {p : Prop} (h : p) : Hid p := h
theorem undone_fn (hl : LastC) (ps : List Pg) (l : List Rc) (o0 : AObj) (ho : (o0.es.all fun x => x.cells.all (AV.lt1 2)) = true) (hp : Sz ps) (hw : Wf l) :
    AFn Tryz.prog 131 [.own 1 3 0 5, recs l] [some o0, some ⟨3, ps.map pA⟩] (fun r S' mv => (∃ qs : List Pg, r = Bo (undoneB ps l) ∧ S' = [some o0, some ⟨3, qs.map pA⟩]) ∧ mv = []) := by
  have hlen := hw.len
  have hol := openTo_len l 3
  refine afn_of Tryz.func131 rfl rfl ?_
  simp -implicitDefEqProofs only [go_sem, Tryz.f131]
  (repeat' (first | ((with_reducible first | refine gon ?_ ?_ | refine gos ?_ ?_ | refine cdn ?_ ?_ | refine cds ?_ ?_ | refine gpn ?_ ?_ | refine gps ?_ ?_) <;> intro h <;> (try simp only [dt, df, gi, gt] at h) <;> try simp -implicitDefEqProofs only [go_sem, *]) | ((with_reducible refine And.intro ?_ ?_); (· first | omega | (simp only [List.length_take]; omega)); try simp -implicitDefEqProofs only [go_sem, *]) | ((with_reducible refine enter_pu (open_fn hl l (by omega)) ?_ ?_ ?_); (· rfl); (· rfl); try simp -implicitDefEqProofs only [go_sem, *])))
  refine cp_loop (fun x : Nat × List Pg => ⟨(.own 1 3 0 5 :: recs l :: .any :: .any :: Bo false :: .any :: .any :: .any :: .any :: .any :: .any :: .any :: ints (openTo l 3) :: I ((openTo l 3).length : Int) :: I (x.1 : Int) :: .any :: .any :: .any :: .any :: .any :: .any :: .any :: .any :: .any :: .any :: .any :: .any :: .any :: .any :: .any :: .any :: .any :: .any :: .any :: .any :: .any :: .any :: .any :: .any :: .any :: .any :: .any :: .any :: .any :: .any :: .any :: .any :: .any :: .any :: []), [some o0, some ⟨3, x.2.map pA⟩], []⟩) (fun x => x.1 ≤ (openTo l 3).length ∧ Sz x.2 ∧ undoL l x.2 ((openTo l 3).drop x.1) = undoFrom l ps 0) (fun x => (openTo l 3).length - x.1) (0, ps) ?_ ?_ ?_
  · exact ⟨by simp, hp, by simp [undoL_open]⟩
  · refine wk_tm ?_; repeat (first | exact WL.nil | (with_reducible refine WL.any _ _ _ ?_) | (with_reducible refine WL.same _ _ _ ?_) | (refine WL.eq _ _ _ _ rfl ?_))
  · rintro ⟨i, q⟩ ⟨hi, hq, hg⟩
    simp only at hi hq hg
    have hb : i < 4611686018427387904 := by omega
    by_cases hil : i < (openTo l 3).length
    rotate_left
    · have hil' : ¬ (i : Int) < ((openTo l 3).length : Int) := by omega
      rw [List.drop_eq_nil_of_le (by omega), undoL] at hg
      simp -implicitDefEqProofs only [go_sem, hil']
      exact fin_same ⟨⟨q, by rw [undoneB, ← hg]; rfl, rfl⟩, rfl⟩
    have hil' : (i : Int) < ((openTo l 3).length : Int) := by omega
    rw [drop_at _ _ hil, undoL] at hg
    obtain ⟨us, hus⟩ : ∃ us, undosN l (lastN l (at' (openTo l 3) (i : Int))) = us := ⟨_, rfl⟩
    have hun := undos_fn hl l (at' (openTo l 3) (i : Int)) hw
    have hul := undosN_len l (lastN l (at' (openTo l 3) (i : Int)))
    have hll := lastN_le l (at' (openTo l 3) (i : Int))
    rw [hus] at hg hun hul
    have hmem : ∀ n ∈ us, ∃ b, n = b + 1 ∧ b < l.length := fun n hn => undosN_mem hw _ hll (by rw [hus]; exact hn)
    have hub : us.length < 4611686018427387904 := by omega
    clear hus hul hll
    simp -implicitDefEqProofs only [go_sem, hil']
    (repeat' (first | ((with_reducible first | refine gon ?_ ?_ | refine gos ?_ ?_ | refine cdn ?_ ?_ | refine cds ?_ ?_ | refine gpn ?_ ?_ | refine gps ?_ ?_) <;> intro h <;> (try simp only [dt, df, gi, gt] at h) <;> try simp -implicitDefEqProofs only [go_sem, *]) | ((with_reducible refine And.intro ?_ ?_); (· first | omega | (simp only [List.length_take]; omega)); try simp -implicitDefEqProofs only [go_sem, *]) | ((with_reducible refine enter_pu (hun) ?_ ?_ ?_); (· rfl); (· rfl); try simp -implicitDefEqProofs only [go_sem, *])))
    refine cp_loop (fun x : Nat × List Pg => ⟨(.own 1 3 0 5 :: recs l :: .any :: .any :: Bo false :: .any :: .any :: .any :: .any :: .any :: .any :: .any :: ints (openTo l 3) :: I ((openTo l 3).length : Int) :: I (i : Int) :: .any :: .any :: .any :: .any :: .any :: ints (us.map fun n : Nat => (n : Int)) :: I (us.length : Int) :: I (x.1 : Int) :: .any :: .any :: .any :: .any :: .any :: .any :: .any :: .any :: .any :: .any :: .any :: .any :: .any :: .any :: .any :: .any :: .any :: .any :: .any :: .any :: .any :: .any :: .any :: .any :: .any :: .any :: []), [some o0, some ⟨3, x.2.map pA⟩], []⟩) (fun x => x.1 ≤ us.length ∧ Sz x.2 ∧ ((undoAll l x.2 (us.drop x.1)).bind fun q' => undoL l q' ((openTo l 3).drop (i + 1))) = undoFrom l ps 0) (fun x => us.length - x.1) (0, q) ?_ ?_ ?_
    · exact ⟨by simp, hq, hg⟩
    · refine wk_tm ?_; repeat (first | exact WL.nil | (with_reducible refine WL.any _ _ _ ?_) | (with_reducible refine WL.same _ _ _ ?_) | (refine WL.eq _ _ _ _ rfl ?_))
    · clear hg hq
      rintro ⟨j, q⟩ ⟨hj, hq, hg⟩
      simp only at hj hq hg
      have hq5 := hq.len
      have hbj : j < 4611686018427387904 := by omega
      by_cases hjl : j < us.length
      rotate_left
      · have hjl' : ¬ (j : Int) < (us.length : Int) := by omega
        rw [List.drop_eq_nil_of_le (by omega), undoAll, Option.bind_some] at hg
        simp -implicitDefEqProofs only [go_sem, hjl', hb]
        refine ⟨(i + 1, q), ⟨by simp only; omega, hq, hg⟩, by simp only; omega, ?_⟩
        refine wk_tm ?_; repeat (first | exact WL.nil | (with_reducible refine WL.any _ _ _ ?_) | (with_reducible refine WL.same _ _ _ ?_) | (refine WL.eq _ _ _ _ rfl ?_))
      have hjl' : (j : Int) < (us.length : Int) := by omega
      obtain ⟨b, hn, hbl⟩ := hmem (at' us (j : Int)) (at_mem us j hjl)
      rw [drop_at us j hjl, hn] at hg
      have hat : at' (us.map fun n : Nat => (n : Int)) (j : Int) = ((b + 1 : Nat) : Int) := by rw [at_mapN us j hjl, hn]
      have hok := hw.rok b hbl
      obtain ⟨mp, hmp, hpg⟩ := Rc.ok_page hok
      have hsl := Rc.ok_slot hok
      have hsz : (at' q (at' l (b : Int)).page).vals.length = 3 := by rw [hpg]; exact hq.sz mp (by omega)
      have hb3 : b < 4611686018427387904 := by omega
      obtain ⟨rb, hrb⟩ : ∃ rb, (at' l (b : Int)).back 0 = rb := ⟨_, rfl⟩
      have hpage : (at' l (b : Int)).page = rb.page := by rw [← hrb]; rfl
      have hslot : rb.slot ≤ 2 := by rw [← hrb]; exact hsl.2
      have hund : undoP l q b = doP (at' q rb.page) rb (at' q rb.page).lsn := by rw [← hrb]; rfl
      have hback : Fn1 Tryz.prog 155 [rA (at' l (b : Int)), I 0] (rA rb) := by rw [← hrb]; exact back_fn _ 0
      have h0 : 0 ≤ rb.page := by omega
      have h4 : rb.page ≤ 4 := by omega
      rw [hpage] at hsz
      have hsz' : Sz (q.set rb.page.toNat (undoP l q b)) := hq.set _ _ (by rw [hund]; exact doP_sz hsz)
      have hok' : (undoP l q b).ok = true → ((undoAll l (q.set rb.page.toNat (undoP l q b)) (us.drop (j + 1))).bind fun q' => undoL l q' ((openTo l 3).drop (i + 1))) = undoFrom l ps 0 := fun h => by rw [← hg, undoAll_ok h, hpage]
      have hno' : (undoP l q b).ok = false → undoneB ps l = false := fun h => by rw [undoneB, ← hg, undoAll_no h]; rfl
      have hdo := with_fn (at' q rb.page) rb hsz hslot
      have hpk := PageOkI_fn (undoP l q b) (by rw [hund, show (doP (at' q rb.page) rb (at' q rb.page).lsn).vals.length = 3 from doP_sz hsz]; omega)
      clear hpg hn hrb hpage hg
      rw [hund] at hok' hno' hpk hsz'
      clear hund
      have hok' := (Hid.mk' hok')
      have hno' := (Hid.mk' hno')
      have hlt3 : (rb.page.toNat : Int) < 5 := by omega
      simp -implicitDefEqProofs only [go_sem, hjl', hb3, hat, h0, hbj]
      (repeat' (first | ((with_reducible first | refine gon ?_ ?_ | refine gos ?_ ?_ | refine cdn ?_ ?_ | refine cds ?_ ?_ | refine gpn ?_ ?_ | refine gps ?_ ?_) <;> intro h <;> (try simp only [dt, df, gi, gt] at h) <;> try simp -implicitDefEqProofs only [go_sem, *]) | ((with_reducible refine And.intro ?_ ?_); (· first | omega | (simp only [List.length_take]; omega)); try simp -implicitDefEqProofs only [go_sem, *]) | first | ((with_reducible refine enter_pu (hback) ?_ ?_ ?_); (· rfl); (· rfl); try simp -implicitDefEqProofs only [go_sem, *]) | ((with_reducible refine cp_draw (id := 8) 8 mixed ?_ ?_ ?_); (· decide +kernel); (· first | (simp only [List.all_cons, List.all_nil, List.length_cons, List.length_nil, Nat.reduceAdd, Nat.reduceLT, decide_true, Bool.and_true, Bool.and_self]; done) | rfl); try simp -implicitDefEqProofs only [go_sem, *]) | ((with_reducible refine pre_enter _ (det_pu (hdo) ?_ ?_) ?_ ?_); (· rfl); (· rfl); (· rfl); try simp -implicitDefEqProofs only [go_sem, *]) | ((with_reducible refine enter_pu (hpk) ?_ ?_ ?_); (· rfl); (· rfl); try simp -implicitDefEqProofs only [go_sem, *])))
      · refine fin_trunc (S := [some o0, some ⟨3, q.map pA⟩]) (Nat.le_refl _) rfl (by simp only [sltB, List.all_cons, List.all_nil, Bool.and_true, Bool.and_eq_true]; exact ⟨ho, slt_p⟩) ⟨⟨q, ?_, rfl⟩, rfl⟩
        rfl
      · refine ⟨(j + 1, q.set rb.page.toNat (doP (at' q rb.page) rb (at' q rb.page).lsn)), ⟨by simp only; omega, hsz', hok'.out h⟩, by simp only; omega, ?_⟩
        refine WkN.trans (wk_tm ?_) (wk_trunc (S := [some o0, some ⟨3, _⟩]) (Nat.le_refl _) rfl (by simp only [sltB, List.all_cons, List.all_nil, Bool.and_true, Bool.and_eq_true]; exact ⟨ho, slt_p⟩)); repeat (first | exact WL.nil | (with_reducible refine WL.any _ _ _ ?_) | (with_reducible refine WL.same _ _ _ ?_) | (refine WL.eq _ _ _ _ rfl ?_))
theorem prefixesOk_fn (hl : LastC) (e : Eng) (hsz : Sz e.disk) (hw : Wf e.log) (hs0 : 0 ≤ e.safe ∧ e.safe ≤ e.log.length) : Fn1 Tryz.prog 88 [eA e] (Bo (allFrom (preB e) e.safe.toNat (e.log.length + 1))) := by
  have hlen := hw.len
  have hcs : ((e.safe.toNat : Nat) : Int) = e.safe := by omega
  refine fn1_of Tryz.func88 rfl rfl ?_
  simp -implicitDefEqProofs only [go_sem, Tryz.f88]
  refine cp_loop (fun n : Nat => ⟨(eA e :: .ref 0 5 0 0 :: Bo false :: I (n : Int) :: .any :: .any :: .any :: .any :: .any :: .any :: .any :: .any :: .any :: .any :: .any :: .any :: .any :: .any :: .any :: .any :: .any :: .any :: .any :: .any :: .any :: .any :: .any :: .any :: .any :: .any :: .any :: .any :: .any :: .any :: .any :: .any :: []), [some ⟨5, [eA e]⟩], []⟩) (fun n => n ≤ e.log.length + 1 ∧ allFrom (preB e) n (e.log.length + 1) = allFrom (preB e) e.safe.toNat (e.log.length + 1)) (fun n => e.log.length + 1 - n) e.safe.toNat ?_ ?_ ?_
  · exact ⟨by omega, rfl⟩
  · simp only [hcs]
    refine wk_tm ?_; repeat (first | exact WL.nil | (with_reducible refine WL.any _ _ _ ?_) | (with_reducible refine WL.same _ _ _ ?_) | (refine WL.eq _ _ _ _ rfl ?_))
  · clear hcs
    rintro n ⟨hn, hg⟩
    by_cases hnl : n < e.log.length + 1
    rotate_left
    · have hnl' : ¬ (n : Int) ≤ (e.log.length : Int) := by omega
      rw [allFrom_ge hnl] at hg
      simp -implicitDefEqProofs only [go_sem, hnl']
      refine fin_pu ?_ rfl
      rw [← hg]
    have hnl' : (n : Int) ≤ (e.log.length : Int) := by omega
    have hb : n < 4611686018427387904 := by omega
    have hwt := hw.take n
    have htl : (e.log.take n).length = n := by rw [List.length_take]; omega
    have hrd := redoI_own e.disk (e.log.take n) hsz hwt
    rw [htl, redoTo_take _ _ _ _ (Nat.le_refl _)] at hrd
    have hrs := redoTo_sz hsz hw n (by omega)
    have hr5 := hrs.len
    have hun := undone_fn hl (redoTo e.disk e.log n) (e.log.take n) ⟨5, [eA e]⟩ rfl hrs hwt
    rw [allFrom_lt hnl] at hg
    clear hwt htl
    rcases hgo : pgsOk (redoTo e.disk e.log n) with _ | _
    · rw [hgo] at hrd
      simp -implicitDefEqProofs only [go_sem, hnl']
      (repeat' (first | ((with_reducible first | refine gon ?_ ?_ | refine gos ?_ ?_ | refine cdn ?_ ?_ | refine cds ?_ ?_ | refine gpn ?_ ?_ | refine gps ?_ ?_) <;> intro h <;> (try simp only [dt, df, gi, gt] at h) <;> try simp -implicitDefEqProofs only [go_sem, *]) | ((with_reducible refine And.intro ?_ ?_); (· first | omega | (simp only [List.length_take]; omega)); try simp -implicitDefEqProofs only [go_sem, *]) | first | ((with_reducible refine cp_draw2 (id := 4) 6 6 mixed ?_ ?_ ?_ ?_); (· decide +kernel); (· first | (simp only [List.all_cons, List.all_nil, List.length_cons, List.length_nil, Nat.reduceAdd, Nat.reduceLT, decide_true, Bool.and_true, Bool.and_self]; done) | rfl); (· rfl); try simp -implicitDefEqProofs only [go_sem, List.append_nil, *]) | ((with_reducible refine enter_fn (hrd) ?_ ?_); (· rfl); try simp -implicitDefEqProofs only [go_sem, *]) | ((with_reducible refine exp_end ?_ ?_); (· decide +kernel); try simp -implicitDefEqProofs only [go_sem, *]) | ((with_reducible refine exp_one 6 ?_ ?_); (· decide +kernel); try simp -implicitDefEqProofs only [go_sem, *]) | ((with_reducible refine exp_one 7 ?_ ?_); (· decide +kernel); try simp -implicitDefEqProofs only [go_sem, *]) | ((with_reducible refine exp_one 8 ?_ ?_); (· decide +kernel); try simp -implicitDefEqProofs only [go_sem, *]) | ((with_reducible refine exp_one 9 ?_ ?_); (· decide +kernel); try simp -implicitDefEqProofs only [go_sem, *]) | ((with_reducible refine exp_one 10 ?_ ?_); (· decide +kernel); try simp -implicitDefEqProofs only [go_sem, *]) | ((with_reducible refine exp_one 11 ?_ ?_); (· decide +kernel); try simp -implicitDefEqProofs only [go_sem, *]) | ((with_reducible refine exp_two 8 9 ?_ ?_ ?_); (· decide +kernel); all_goals (try simp -implicitDefEqProofs only [go_sem, *])) | ((with_reducible refine exp_two 9 10 ?_ ?_ ?_); (· decide +kernel); all_goals (try simp -implicitDefEqProofs only [go_sem, *]))))
      all_goals (refine fin_pu ?_ rfl; rw [← hg, preB, hgo]; rfl)
    · rw [hgo] at hrd
      rcases huo : undoneB (redoTo e.disk e.log n) (e.log.take n) with _ | _
      · rw [huo] at hun
        simp -implicitDefEqProofs only [go_sem, hnl']
        (repeat' (first | ((with_reducible first | refine gon ?_ ?_ | refine gos ?_ ?_ | refine cdn ?_ ?_ | refine cds ?_ ?_ | refine gpn ?_ ?_ | refine gps ?_ ?_) <;> intro h <;> (try simp only [dt, df, gi, gt] at h) <;> try simp -implicitDefEqProofs only [go_sem, *]) | ((with_reducible refine And.intro ?_ ?_); (· first | omega | (simp only [List.length_take]; omega)); try simp -implicitDefEqProofs only [go_sem, *]) | first | ((with_reducible refine cp_draw2 (id := 4) 6 6 mixed ?_ ?_ ?_ ?_); (· decide +kernel); (· first | (simp only [List.all_cons, List.all_nil, List.length_cons, List.length_nil, Nat.reduceAdd, Nat.reduceLT, decide_true, Bool.and_true, Bool.and_self]; done) | rfl); (· rfl); try simp -implicitDefEqProofs only [go_sem, List.append_nil, *]) | ((with_reducible refine enter_fn (hrd) ?_ ?_); (· rfl); try simp -implicitDefEqProofs only [go_sem, *]) | ((with_reducible refine exp_end ?_ ?_); (· decide +kernel); try simp -implicitDefEqProofs only [go_sem, *]) | ((with_reducible refine exp_one 6 ?_ ?_); (· decide +kernel); try simp -implicitDefEqProofs only [go_sem, *]) | ((with_reducible refine exp_one 7 ?_ ?_); (· decide +kernel); try simp -implicitDefEqProofs only [go_sem, *]) | ((with_reducible refine exp_one 8 ?_ ?_); (· decide +kernel); try simp -implicitDefEqProofs only [go_sem, *]) | ((with_reducible refine exp_one 9 ?_ ?_); (· decide +kernel); try simp -implicitDefEqProofs only [go_sem, *]) | ((with_reducible refine exp_one 10 ?_ ?_); (· decide +kernel); try simp -implicitDefEqProofs only [go_sem, *]) | ((with_reducible refine exp_one 11 ?_ ?_); (· decide +kernel); try simp -implicitDefEqProofs only [go_sem, *]) | ((with_reducible refine exp_two 8 9 ?_ ?_ ?_); (· decide +kernel); all_goals (try simp -implicitDefEqProofs only [go_sem, *])) | ((with_reducible refine exp_two 9 10 ?_ ?_ ?_); (· decide +kernel); all_goals (try simp -implicitDefEqProofs only [go_sem, *])) | ((refine enter_keep hun ?_); (rintro r S' ⟨qs, rfl, rfl⟩); try simp -implicitDefEqProofs only [go_sem, *])))
        all_goals (refine fin_pu ?_ rfl; rw [← hg, preB, hgo, huo]; rfl)
      · rw [huo] at hun
        simp -implicitDefEqProofs only [go_sem, hnl', hb]
        (repeat' (first | ((with_reducible first | refine gon ?_ ?_ | refine gos ?_ ?_ | refine cdn ?_ ?_ | refine cds ?_ ?_ | refine gpn ?_ ?_ | refine gps ?_ ?_) <;> intro h <;> (try simp only [dt, df, gi, gt] at h) <;> try simp -implicitDefEqProofs only [go_sem, *]) | ((with_reducible refine And.intro ?_ ?_); (· first | omega | (simp only [List.length_take]; omega)); try simp -implicitDefEqProofs only [go_sem, *]) | first | ((with_reducible refine cp_draw2 (id := 4) 6 6 mixed ?_ ?_ ?_ ?_); (· decide +kernel); (· first | (simp only [List.all_cons, List.all_nil, List.length_cons, List.length_nil, Nat.reduceAdd, Nat.reduceLT, decide_true, Bool.and_true, Bool.and_self]; done) | rfl); (· rfl); try simp -implicitDefEqProofs only [go_sem, List.append_nil, *]) | ((with_reducible refine enter_fn (hrd) ?_ ?_); (· rfl); try simp -implicitDefEqProofs only [go_sem, *]) | ((with_reducible refine exp_end ?_ ?_); (· decide +kernel); try simp -implicitDefEqProofs only [go_sem, *]) | ((with_reducible refine exp_one 6 ?_ ?_); (· decide +kernel); try simp -implicitDefEqProofs only [go_sem, *]) | ((with_reducible refine exp_one 7 ?_ ?_); (· decide +kernel); try simp -implicitDefEqProofs only [go_sem, *]) | ((with_reducible refine exp_one 8 ?_ ?_); (· decide +kernel); try simp -implicitDefEqProofs only [go_sem, *]) | ((with_reducible refine exp_one 9 ?_ ?_); (· decide +kernel); try simp -implicitDefEqProofs only [go_sem, *]) | ((with_reducible refine exp_one 10 ?_ ?_); (· decide +kernel); try simp -implicitDefEqProofs only [go_sem, *]) | ((with_reducible refine exp_one 11 ?_ ?_); (· decide +kernel); try simp -implicitDefEqProofs only [go_sem, *]) | ((with_reducible refine exp_two 8 9 ?_ ?_ ?_); (· decide +kernel); all_goals (try simp -implicitDefEqProofs only [go_sem, *])) | ((with_reducible refine exp_two 9 10 ?_ ?_ ?_); (· decide +kernel); all_goals (try simp -implicitDefEqProofs only [go_sem, *])) | ((refine enter_keep hun ?_); (rintro r S' ⟨qs, rfl, rfl⟩); try simp -implicitDefEqProofs only [go_sem, *])))
        all_goals
          refine ⟨n + 1, ⟨by omega, by rw [← hg, preB, hgo, huo]; rfl⟩, by omega, ?_⟩
          refine WkN.trans (wk_tm ?_) (wk_trunc (S := [some ⟨5, [eA e]⟩]) (Nat.le_refl _) rfl (by first | rfl | (simp only [sltB, List.all_cons, List.all_nil, slt_p, slt_I, slt_r, Bool.and_true]; done) | (simp only [sltB, List.all_cons, List.all_nil, slt_p, slt_I, slt_r, Bool.and_true]; rfl))); repeat (first | exact WL.nil | (with_reducible refine WL.any _ _ _ ?_) | (with_reducible refine WL.same _ _ _ ?_) | (refine WL.eq _ _ _ _ rfl ?_))
end
section
/-- The pages of the records of a transaction's chain of which something holds, sorted, each once (the list is made elsewhere). -/
structure PagesC where
  pg : List Rc → Int → (Rc → Bool) → List Int
  mem : ∀ l tx pred x, x ∈ pg l tx pred ↔ ∃ n ∈ chain l (lastN l tx), pred (at' l ((n : Int) - 1)) = true ∧ (at' l ((n : Int) - 1)).page = x
  len : ∀ l tx pred, Wf l → (pg l tx pred).length ≤ 200
  fn : ∀ (l : List Rc) (tx : Int) (h : FuncId) (pred : Rc → Bool), Wf l → (∀ r, Fn1 Tryz.prog h [rA r] (Bo (pred r))) → Fn1 Tryz.prog 58 [recs l, I tx, .clo h []] (ints (pg l tx pred))
theorem all_fn (r : Rc) : Fn1 Tryz.prog 137 [rA r] (Bo true) := by
  refine fn1_of Tryz.func137 rfl rfl ?_
  simp -implicitDefEqProofs only [go_sem, Tryz.f137]
  (repeat' (first | ((with_reducible first | refine gon ?_ ?_ | refine gos ?_ ?_ | refine cdn ?_ ?_ | refine cds ?_ ?_ | refine gpn ?_ ?_ | refine gps ?_ ?_) <;> intro h <;> (try simp only [dt, df, gi, gt] at h) <;> try simp -implicitDefEqProofs only [go_sem, *]) | ((with_reducible refine And.intro ?_ ?_); (· first | omega | (simp only [List.length_take]; omega)); try simp -implicitDefEqProofs only [go_sem, *]) | fail))
  all_goals exact fin_pu rfl rfl
theorem loads_fn (r : Rc) : Fn1 Tryz.prog 59 [rA r] (Bo (decide (r.kind = 3))) := by
  refine fn1_of Tryz.func59 rfl rfl ?_
  simp -implicitDefEqProofs only [go_sem, Tryz.f59]
  (repeat' (first | ((with_reducible first | refine gon ?_ ?_ | refine gos ?_ ?_ | refine cdn ?_ ?_ | refine cds ?_ ?_ | refine gpn ?_ ?_ | refine gps ?_ ?_) <;> intro h <;> (try simp only [dt, df, gi, gt] at h) <;> try simp -implicitDefEqProofs only [go_sem, *]) | ((with_reducible refine And.intro ?_ ?_); (· first | omega | (simp only [List.length_take]; omega)); try simp -implicitDefEqProofs only [go_sem, *]) | fail))
  all_goals try ((with_reducible refine fin_pu ?_ ?_); (· (simp_all [true_and]) <;> (first | omega | (rw [Bool.eq_iff_iff]; simp; done) | (rw [Bool.eq_iff_iff]; simp; omega) | (split <;> (first | rfl | omega | (simp_all; done))))); (· rfl))
theorem any_mem (xs : List Int) (v : Int) : anyFrom (fun k => v == at' xs k) 0 xs.length = decide (v ∈ xs) := by
  rw [Bool.eq_iff_iff, anyFrom_iff, decide_eq_true_eq]
  constructor
  · rintro ⟨k, _, hk, h⟩
    rw [show v = at' xs k by simpa using h]
    exact at_mem xs k hk
  · intro h
    obtain ⟨k, hk, rfl⟩ := mem_at h
    exact ⟨k, Nat.zero_le _, hk, by simp⟩
theorem has_mem (pc : PagesC) (l : List Rc) (tx page : Int) : anyFrom (fun k => page == at' (pc.pg l tx fun _ => true) k) 0 (pc.pg l tx fun _ => true).length = hasIn l tx page := by
  rw [any_mem, Bool.eq_iff_iff, decide_eq_true_eq, pc.mem]
  unfold hasIn
  simp [List.any_eq_true]
theorem load_mem (pc : PagesC) (l : List Rc) (tx page : Int) : anyFrom (fun k => page == at' (pc.pg l tx fun r => decide (r.kind = 3)) k) 0 (pc.pg l tx fun r => decide (r.kind = 3)).length = loadIn l tx page := by
  rw [any_mem, Bool.eq_iff_iff, decide_eq_true_eq, pc.mem]
  unfold loadIn
  simp [List.any_eq_true]
/-- Who holds a page, and whether it is one at most, over some transactions. -/
def lkL (l : List Rc) (page : Int) : List Int → Int × Bool → Int × Bool
  | [], s => s
  | tx :: r, s => lkL l page r (if hasIn l tx page = true then (tx, s.1 == 0) else s)
theorem lkL_app (l : List Rc) (page : Int) : ∀ (xs ys : List Int) (s : Int × Bool), lkL l page (xs ++ ys) s = lkL l page ys (lkL l page xs s)
  | [], ys, s => rfl
  | tx :: r, ys, s => by simp only [List.cons_append, lkL]; exact lkL_app l page r ys _
/-- The last one that holds a page; 0, if there is none. -/
def lastBy (l : List Rc) (page : Int) : Nat → Nat
  | 0 => 0
  | t + 1 => if hasIn l ((t + 1 : Nat) : Int) page = true then t + 1 else lastBy l page t
theorem hasIn_none {l : List Rc} {tx page : Int} (h : lastN l tx = 0) : hasIn l tx page = false := by
  unfold hasIn
  rw [h, chain_zero]
  rfl
theorem lastBy_zero (l : List Rc) (page : Int) : ∀ t, lastBy l page t = 0 ↔ heldTo l page t = 0
  | 0 => by simp [lastBy, heldTo]
  | t + 1 => by
    rw [lastBy, heldTo]
    split
    · simp
    · simpa using lastBy_zero l page t
theorem lkL_open (l : List Rc) (page : Int) : ∀ t, lkL l page (openTo l t) (0, true) = (((lastBy l page t : Nat) : Int), decide (heldTo l page t ≤ 1))
  | 0 => rfl
  | t + 1 => by
    have ih := lkL_open l page t
    have hz := lastBy_zero l page t
    rw [openTo]
    split
    · rename_i h
      rw [ih, lastBy, heldTo, hasIn_none h]
      simp
    · rw [lkL_app, ih, lastBy, heldTo]
      simp only [lkL]
      split
      · rename_i h
        refine Prod.ext rfl ?_
        show (((lastBy l page t : Nat) : Int) == 0) = decide (heldTo l page t + 1 ≤ 1)
        rw [Bool.eq_iff_iff]
        simp only [beq_iff_eq, decide_eq_true_eq]
        omega
      · simp
theorem locks_fn (hl : LastC) (pc : PagesC) (l : List Rc) (page : Int) (hw : Wf l) : Fn1 Tryz.prog 90 [recs l, I page] (.tup [I ((lastBy l page 3 : Nat) : Int), Bo (decide (heldTo l page 3 ≤ 1))]) := by
  have hlen := hw.len
  have hol := openTo_len l 3
  refine fn1_of Tryz.func90 rfl rfl ?_
  simp -implicitDefEqProofs only [go_sem, Tryz.f90]
  (repeat' (first | ((with_reducible first | refine gon ?_ ?_ | refine gos ?_ ?_ | refine cdn ?_ ?_ | refine cds ?_ ?_ | refine gpn ?_ ?_ | refine gps ?_ ?_) <;> intro h <;> (try simp only [dt, df, gi, gt] at h) <;> try simp -implicitDefEqProofs only [go_sem, *]) | ((with_reducible refine And.intro ?_ ?_); (· first | omega | (simp only [List.length_take]; omega)); try simp -implicitDefEqProofs only [go_sem, *]) | ((with_reducible refine enter_pu (open_fn hl l (by omega)) ?_ ?_ ?_); (· rfl); (· rfl); try simp -implicitDefEqProofs only [go_sem, *])))
  refine cp_loop (fun x : Nat × Int × Bool => ⟨(recs l :: I page :: .any :: .any :: I 0 :: Bo false :: I x.2.1 :: Bo x.2.2 :: .any :: .any :: .any :: ints (openTo l 3) :: I ((openTo l 3).length : Int) :: I (x.1 : Int) :: .any :: .any :: .any :: .any :: .any :: .any :: .any :: .any :: .any :: .any :: .any :: .any :: .any :: .any :: []), [], []⟩) (fun x => x.1 ≤ (openTo l 3).length ∧ lkL l page ((openTo l 3).drop x.1) x.2 = (((lastBy l page 3 : Nat) : Int), decide (heldTo l page 3 ≤ 1))) (fun x => (openTo l 3).length - x.1) (0, 0, true) ?_ ?_ ?_
  · exact ⟨by simp, by simp only [List.drop_zero]; exact lkL_open l page 3⟩
  · refine wk_tm ?_; repeat (first | exact WL.nil | (with_reducible refine WL.any _ _ _ ?_) | (with_reducible refine WL.same _ _ _ ?_) | (refine WL.eq _ _ _ _ rfl ?_))
  · rintro ⟨i, b, o⟩ ⟨hi, hg⟩
    simp only at hi hg
    have hb : i < 4611686018427387904 := by omega
    by_cases hil : i < (openTo l 3).length
    rotate_left
    · have hil' : ¬ (i : Int) < ((openTo l 3).length : Int) := by omega
      rw [List.drop_eq_nil_of_le (by omega), lkL] at hg
      simp -implicitDefEqProofs only [go_sem, hil']
      obtain ⟨rfl, rfl⟩ := Prod.mk.inj hg
      exact fin_1 (.tup _ _ (.cons _ _ _ _ (.of1 _ _ (.of0 _ _ (.same _ rfl))) (.cons _ _ _ _ (.of1 _ _ (.of0 _ _ (.same _ rfl))) .nil)))
    have hil' : (i : Int) < ((openTo l 3).length : Int) := by omega
    rw [drop_at _ _ hil, lkL] at hg
    have hpf := pc.fn l (at' (openTo l 3) (i : Int)) _ (fun _ => true) hw all_fn
    have hpl := pc.len l (at' (openTo l 3) (i : Int)) (fun _ => true) hw
    have hcf := Contains_int (pc.pg l (at' (openTo l 3) (i : Int)) fun _ => true) page (by omega)
    rw [has_mem] at hcf
    rcases hh : hasIn l (at' (openTo l 3) (i : Int)) page with _ | _
    · rw [hh, if_neg (by simp)] at hg
      rw [hh] at hcf
      simp -implicitDefEqProofs only [go_sem, hil', hb]
      (repeat' (first | ((with_reducible first | refine gon ?_ ?_ | refine gos ?_ ?_ | refine cdn ?_ ?_ | refine cds ?_ ?_ | refine gpn ?_ ?_ | refine gps ?_ ?_) <;> intro h <;> (try simp only [dt, df, gi, gt] at h) <;> try simp -implicitDefEqProofs only [go_sem, *]) | ((with_reducible refine And.intro ?_ ?_); (· first | omega | (simp only [List.length_take]; omega)); try simp -implicitDefEqProofs only [go_sem, *]) | first | ((with_reducible refine enter_pu (hpf) ?_ ?_ ?_); (· rfl); (· rfl); try simp -implicitDefEqProofs only [go_sem, *]) | ((with_reducible refine enter_pu (hcf) ?_ ?_ ?_); (· rfl); (· rfl); try simp -implicitDefEqProofs only [go_sem, *])))
      refine ⟨(i + 1, b, o), ⟨by simp only; omega, hg⟩, by simp only; omega, ?_⟩
      refine wk_tm ?_; repeat (first | exact WL.nil | (with_reducible refine WL.any _ _ _ ?_) | (with_reducible refine WL.same _ _ _ ?_) | (refine WL.eq _ _ _ _ rfl ?_))
    · rw [hh, if_pos rfl] at hg
      rw [hh] at hcf
      simp -implicitDefEqProofs only [go_sem, hil', hb]
      (repeat' (first | ((with_reducible first | refine gon ?_ ?_ | refine gos ?_ ?_ | refine cdn ?_ ?_ | refine cds ?_ ?_ | refine gpn ?_ ?_ | refine gps ?_ ?_) <;> intro h <;> (try simp only [dt, df, gi, gt] at h) <;> try simp -implicitDefEqProofs only [go_sem, *]) | ((with_reducible refine And.intro ?_ ?_); (· first | omega | (simp only [List.length_take]; omega)); try simp -implicitDefEqProofs only [go_sem, *]) | first | ((with_reducible refine enter_pu (hpf) ?_ ?_ ?_); (· rfl); (· rfl); try simp -implicitDefEqProofs only [go_sem, *]) | ((with_reducible refine enter_pu (hcf) ?_ ?_ ?_); (· rfl); (· rfl); try simp -implicitDefEqProofs only [go_sem, *])))
      refine ⟨(i + 1, at' (openTo l 3) (i : Int), b == 0), ⟨by simp only; omega, hg⟩, by simp only; omega, ?_⟩
      refine wk_tm ?_; repeat (first | exact WL.nil | (with_reducible refine WL.any _ _ _ ?_) | (with_reducible refine WL.same _ _ _ ?_) | (refine WL.eq _ _ _ _ rfl ?_))
theorem loaded1_fn (pc : PagesC) (l : List Rc) (page tx : Int) (hw : Wf l) : Fn1 Tryz.prog 158 [I tx, .ro [.sl 8 (l.map rD)], .ro [iD page]] (Bo (loadIn l tx page)) := by
  have hpf := pc.fn l tx _ (fun r => decide (r.kind = 3)) hw loads_fn
  have hpl := pc.len l tx (fun r => decide (r.kind = 3)) hw
  have hcf := Contains_int (pc.pg l tx fun r => decide (r.kind = 3)) page (by omega)
  rw [load_mem] at hcf
  refine fn1_of Tryz.func158 rfl rfl ?_
  simp -implicitDefEqProofs only [go_sem, Tryz.f158]
  (repeat' (first | ((with_reducible first | refine gon ?_ ?_ | refine gos ?_ ?_ | refine cdn ?_ ?_ | refine cds ?_ ?_ | refine gpn ?_ ?_ | refine gps ?_ ?_) <;> intro h <;> (try simp only [dt, df, gi, gt] at h) <;> try simp -implicitDefEqProofs only [go_sem, *]) | ((with_reducible refine And.intro ?_ ?_); (· first | omega | (simp only [List.length_take]; omega)); try simp -implicitDefEqProofs only [go_sem, *]) | first | ((with_reducible refine cp_draw (id := 1) 5 mixed ?_ ?_ ?_); (· decide +kernel); (· first | (simp only [List.all_cons, List.all_nil, List.length_cons, List.length_nil, Nat.reduceAdd, Nat.reduceLT, decide_true, Bool.and_true, Bool.and_self]; done) | rfl); try simp -implicitDefEqProofs only [go_sem, *]) | ((with_reducible refine pre_enter _ (det_pu (hpf) ?_ ?_) ?_ ?_); (· rfl); (· rfl); (· rfl); try simp -implicitDefEqProofs only [go_sem, *]) | ((with_reducible refine pre_enter _ (det_pu (hcf) ?_ ?_) ?_ ?_); (· rfl); (· rfl); (· rfl); try simp -implicitDefEqProofs only [go_sem, *])))
  all_goals exact fin_pu rfl rfl
theorem loadIn_none {l : List Rc} {tx page : Int} (h : lastN l tx = 0) : loadIn l tx page = false := by
  unfold loadIn
  rw [h, chain_zero]
  rfl
theorem open_mem (l : List Rc) (x : Int) : ∀ t, x ∈ openTo l t ↔ ∃ k, k < t ∧ x = ((k + 1 : Nat) : Int) ∧ lastN l ((k + 1 : Nat) : Int) ≠ 0
  | 0 => by simp [openTo]
  | t + 1 => by
    have ih := open_mem l x t
    rw [openTo]
    split
    · rename_i h
      rw [ih]
      constructor
      · rintro ⟨k, h1, h2⟩; exact ⟨k, by omega, h2⟩
      · rintro ⟨k, h1, h2, h3⟩
        rcases Nat.eq_or_lt_of_le (Nat.le_of_lt_succ h1) with rfl | h1
        · exact absurd h h3
        · exact ⟨k, h1, h2, h3⟩
    · rename_i h
      rw [List.mem_append, ih, List.mem_singleton]
      constructor
      · rintro (⟨k, h1, h2⟩ | rfl)
        · exact ⟨k, by omega, h2⟩
        · exact ⟨t, by omega, rfl, h⟩
      · rintro ⟨k, h1, h2, h3⟩
        rcases Nat.eq_or_lt_of_le (Nat.le_of_lt_succ h1) with rfl | h1
        · exact .inr h2
        · exact .inl ⟨k, h1, h2, h3⟩
theorem loaded_any (l : List Rc) (page : Int) : anyFrom (fun k => loadIn l (at' (openTo l 3) (k : Int)) page) 0 (openTo l 3).length = loadedIn l page := by
  unfold loadedIn
  rw [Bool.eq_iff_iff, anyFrom_iff, anyFrom_iff]
  constructor
  · rintro ⟨k, _, hk, h⟩
    obtain ⟨t, h1, h2, h3⟩ := (open_mem l _ 3).1 (at_mem (openTo l 3) k hk)
    exact ⟨t, Nat.zero_le _, h1, by rw [← h2]; exact h⟩
  · rintro ⟨t, _, ht, h⟩
    have hn : lastN l ((t + 1 : Nat) : Int) ≠ 0 := fun e => by rw [loadIn_none e] at h; cases h
    obtain ⟨k, hk, e⟩ := mem_at ((open_mem l ((t + 1 : Nat) : Int) 3).2 ⟨t, ht, rfl, hn⟩)
    exact ⟨k, Nat.zero_le _, hk, by rw [e]; exact h⟩
theorem loadedI_fn (hl : LastC) (pc : PagesC) (l : List Rc) (page : Int) (hw : Wf l) : Fn1 Tryz.prog 139 [recs l, I page] (Bo (loadedIn l page)) := by
  have hlen := hw.len
  have hol := openTo_len l 3
  have hcf := ContainsFunc_int (openTo l 3) 158 [.ro [.sl 8 (l.map rD)], .ro [iD page]] (fun tx => loadIn l tx page) (by omega) rfl rfl (fun n => loaded1_fn pc l page n hw)
  refine fn1_of Tryz.func139 rfl rfl ?_
  simp -implicitDefEqProofs only [go_sem, Tryz.f139]
  (repeat' (first | ((with_reducible first | refine gon ?_ ?_ | refine gos ?_ ?_ | refine cdn ?_ ?_ | refine cds ?_ ?_ | refine gpn ?_ ?_ | refine gps ?_ ?_) <;> intro h <;> (try simp only [dt, df, gi, gt] at h) <;> try simp -implicitDefEqProofs only [go_sem, *]) | ((with_reducible refine And.intro ?_ ?_); (· first | omega | (simp only [List.length_take]; omega)); try simp -implicitDefEqProofs only [go_sem, *]) | ((with_reducible refine enter_pu (open_fn hl l (by omega)) ?_ ?_ ?_); (· rfl); (· rfl); try simp -implicitDefEqProofs only [go_sem, *])))
  refine enter_own hcf (.cons _ _ _ _ (.of1 _ _ (.of0 _ _ (.same _ rfl))) (.cons _ _ _ _ (.clo _ _ _ (.cons _ _ _ _ (.ref _ _ _ _ ⟨1, [recs l]⟩ _ rfl rfl rfl (by simp) (by simp) (.cons _ _ _ _ (.same _ rfl) .nil) (by simp [D.scalar])) (.cons _ _ _ _ (.ref _ _ _ _ ⟨1, [I page]⟩ _ rfl rfl rfl (by simp) (by simp) (.cons _ _ _ _ (.same _ rfl) .nil) (by simp [D.scalar, iD])) .nil))) .nil)) rfl rfl ?_
  simp -implicitDefEqProofs only [go_sem, true_and]
  refine fin_pu ?_ rfl
  rw [loaded_any]
end
section
/-- The contract of impl.lastOf (proved elsewhere). -/
abbrev LastOfC : Prop := ∀ (l : List Rc) (page : Int), l.length < 1000000 → Fn1 Tryz.prog 140 [recs l, I page] (I (pageTo l page l.length))
attribute [local congr] yieldR_congr nc_congr
@[local go_sem] theorem yieldR_idx {α : Type} [Inhabited α] {z : Nat} {te : TI} {f : α → D} {l : List α} {n : Int} {v : AV} :
    yieldR (idx z te f l n) v = ((0 ≤ n ∧ n.toNat < l.length ∧ te.zs.length = z) ∧ .ro (f (at' l n)).cells = v) := by
  unfold idx
  rw [indexS_sl, yieldR_val]
  refine propext ?_
  rw [List.length_map]
  constructor
  · rintro ⟨h, k⟩
    rw [idx_eq h.2.1] at k
    exact ⟨h, k⟩
  · rintro ⟨h, k⟩
    rw [← idx_eq h.2.1] at k
    exact ⟨h, k⟩
theorem memOk_fn (hl : LastC) (hlo : LastOfC) (pc : PagesC) (e : Eng) (p : Nat) (r : Pg) (hp : p < 5) (hw : Wf e.log) (hm : Sz e.mem) (hd : Sz e.disk) (hr : r = at' e.redo (p : Int)) (hrs : r.vals.length = 3) :
    Fn1 Tryz.prog 92 [eA e, I p, pA r] (Bo (memB e p)) := by
  have hlen := hw.len
  have hm5 := hm.len
  have hd5 := hd.len
  have hld := loadedI_fn hl pc e.log p hw
  have hs1 := same_fn (at' e.mem (p : Int)) r (by rw [hm.sz p hp]; omega)
  have hs2 := same_fn (at' e.mem (p : Int)) (at' e.disk (p : Int)) (by rw [hm.sz p hp]; omega)
  have hlf := hlo e.log p (by omega)
  have hmem : memB e p = (if loadedIn e.log p = true then ((at' e.mem (p : Int)).owner == r.owner) && freshB e p else sameP (at' e.mem (p : Int)) r) := by rw [hr]; rfl
  clear hr
  rw [hmem]
  clear hmem
  unfold freshB
  refine fn1_of Tryz.func92 rfl rfl ?_
  simp -implicitDefEqProofs only [go_sem, Tryz.f92]
  refine cp_drawH (id := 1) 14 (fun S => getO S 0 = some ⟨5, [eA e]⟩ ∧ getO S 1 = some ⟨3, [pA r]⟩) mixed rfl ?_
  have hpn : (p : Int) < 5 := by omega
  ((refine expH_get 0 (.ref 0 5 0 1) rfl ?_ ?_ ?_ ?_ ?_); (· decide +kernel); (· decide +kernel); (· exact ⟨rfl, rfl⟩); (· (rintro S ⟨hS0, hS1⟩; simp -implicitDefEqProofs only [go_sem, hS0, hS1, *])); try simp -implicitDefEqProofs only [go_sem, List.set_cons_succ, List.set_cons_zero])
  ((refine expH_get 1 (pgs e.mem) rfl ?_ ?_ ?_ ?_ ?_); (· decide +kernel); (· decide +kernel); (· exact ⟨rfl, rfl⟩); (· (rintro S ⟨hS0, hS1⟩; simp -implicitDefEqProofs only [go_sem, hS0, hS1, *])); try simp -implicitDefEqProofs only [go_sem, List.set_cons_succ, List.set_cons_zero])
  ((refine expH_get 2 (I p) rfl ?_ ?_ ?_ ?_ ?_); (· decide +kernel); (· decide +kernel); (· exact ⟨rfl, rfl⟩); (· (rintro S ⟨hS0, hS1⟩; simp -implicitDefEqProofs only [go_sem, hS0, hS1, *])); try simp -implicitDefEqProofs only [go_sem, List.set_cons_succ, List.set_cons_zero])
  ((refine expH_get 3 (.ro (pD (at' e.mem (p : Int))).cells) rfl ?_ ?_ ?_ ?_ ?_); (· decide +kernel); (· decide +kernel); (· exact ⟨rfl, rfl⟩); (· (rintro S ⟨hS0, hS1⟩; simp -implicitDefEqProofs only [go_sem, hS0, hS1, *])); try simp -implicitDefEqProofs only [go_sem, List.set_cons_succ, List.set_cons_zero])
  ((refine expH_get 4 (pA (at' e.mem (p : Int))) rfl ?_ ?_ ?_ ?_ ?_); (· decide +kernel); (· decide +kernel); (· exact ⟨rfl, rfl⟩); (· (rintro S ⟨hS0, hS1⟩; simp -implicitDefEqProofs only [go_sem, hS0, hS1, *])); try simp -implicitDefEqProofs only [go_sem, List.set_cons_succ, List.set_cons_zero])
  ((refine expH_get 5 (.ref 0 5 0 0) rfl ?_ ?_ ?_ ?_ ?_); (· decide +kernel); (· decide +kernel); (· exact ⟨rfl, rfl⟩); (· (rintro S ⟨hS0, hS1⟩; simp -implicitDefEqProofs only [go_sem, hS0, hS1, *])); try simp -implicitDefEqProofs only [go_sem, List.set_cons_succ, List.set_cons_zero])
  ((refine expH_get 6 (pgs e.disk) rfl ?_ ?_ ?_ ?_ ?_); (· decide +kernel); (· decide +kernel); (· exact ⟨rfl, rfl⟩); (· (rintro S ⟨hS0, hS1⟩; simp -implicitDefEqProofs only [go_sem, hS0, hS1, *])); try simp -implicitDefEqProofs only [go_sem, List.set_cons_succ, List.set_cons_zero])
  ((refine expH_get 7 (I p) rfl ?_ ?_ ?_ ?_ ?_); (· decide +kernel); (· decide +kernel); (· exact ⟨rfl, rfl⟩); (· (rintro S ⟨hS0, hS1⟩; simp -implicitDefEqProofs only [go_sem, hS0, hS1, *])); try simp -implicitDefEqProofs only [go_sem, List.set_cons_succ, List.set_cons_zero])
  ((refine expH_get 8 (.ro (pD (at' e.disk (p : Int))).cells) rfl ?_ ?_ ?_ ?_ ?_); (· decide +kernel); (· decide +kernel); (· exact ⟨rfl, rfl⟩); (· (rintro S ⟨hS0, hS1⟩; simp -implicitDefEqProofs only [go_sem, hS0, hS1, *])); try simp -implicitDefEqProofs only [go_sem, List.set_cons_succ, List.set_cons_zero])
  ((refine expH_get 9 (pA (at' e.disk (p : Int))) rfl ?_ ?_ ?_ ?_ ?_); (· decide +kernel); (· decide +kernel); (· exact ⟨rfl, rfl⟩); (· (rintro S ⟨hS0, hS1⟩; simp -implicitDefEqProofs only [go_sem, hS0, hS1, *])); try simp -implicitDefEqProofs only [go_sem, List.set_cons_succ, List.set_cons_zero])
  refine expH_go2 10 11 rfl rfl (by decide +kernel) ?_ ?_ ?_ ?_
  · simp -implicitDefEqProofs only [go_sem]
  · simp -implicitDefEqProofs only [go_sem]
  · simp -implicitDefEqProofs only [go_sem]
    (refine expH_go 11 rfl (by decide +kernel) ?_ ?_; (· simp -implicitDefEqProofs only [go_sem, *]); simp -implicitDefEqProofs only [go_sem, *]; repeat (refine And.intro (by first | omega | exact ⟨rfl, rfl⟩) ?_))
    (refine expH_go 12 rfl (by decide +kernel) ?_ ?_; (· simp -implicitDefEqProofs only [go_sem, *]); simp -implicitDefEqProofs only [go_sem, *]; repeat (refine And.intro (by first | omega | exact ⟨rfl, rfl⟩) ?_))
    (refine expH_go 13 rfl (by decide +kernel) ?_ ?_; (· simp -implicitDefEqProofs only [go_sem, *]); simp -implicitDefEqProofs only [go_sem, *]; repeat (refine And.intro (by first | omega | exact ⟨rfl, rfl⟩) ?_))
    refine expH_end (by decide +kernel) ?_
    simp -implicitDefEqProofs only [go_sem, true_and]
    (repeat' (first | ((with_reducible first | refine gon ?_ ?_ | refine gos ?_ ?_ | refine cdn ?_ ?_ | refine cds ?_ ?_ | refine gpn ?_ ?_ | refine gps ?_ ?_) <;> intro h <;> (try simp only [dt, df, gi, gt] at h) <;> try simp -implicitDefEqProofs only [go_sem, *]) | ((with_reducible refine And.intro ?_ ?_); (· first | omega | (simp only [List.length_take]; omega)); try simp -implicitDefEqProofs only [go_sem, *]) | first | ((with_reducible refine enter_pu (hld) ?_ ?_ ?_); (· rfl); (· rfl); try simp -implicitDefEqProofs only [go_sem, *]) | ((with_reducible refine enter_pu (hs1) ?_ ?_ ?_); (· rfl); (· rfl); try simp -implicitDefEqProofs only [go_sem, *]) | ((with_reducible refine cp_draw (id := 4) 27 mixed ?_ ?_ ?_); (· decide +kernel); (· first | (simp only [List.all_cons, List.all_nil, List.length_cons, List.length_nil, Nat.reduceAdd, Nat.reduceLT, decide_true, Bool.and_true, Bool.and_self]; done) | rfl); try simp -implicitDefEqProofs only [go_sem, *]) | ((with_reducible refine pre_enter _ (det_pu (hlf) ?_ ?_) ?_ ?_); (· rfl); (· rfl); (· rfl); try simp -implicitDefEqProofs only [go_sem, *]) | ((with_reducible refine pre_enter _ (det_pu (hs2) ?_ ?_) ?_ ?_); (· rfl); (· rfl); (· rfl); try simp -implicitDefEqProofs only [go_sem, *])))
    all_goals (refine fin_pu ?_ rfl; simp_all)
  · simp -implicitDefEqProofs only [go_sem]
    (refine expH_go 10 rfl (by decide +kernel) ?_ ?_; (· simp -implicitDefEqProofs only [go_sem, *]); simp -implicitDefEqProofs only [go_sem, *]; repeat (refine And.intro (by first | omega | exact ⟨rfl, rfl⟩) ?_))
    (refine expH_go 12 rfl (by decide +kernel) ?_ ?_; (· simp -implicitDefEqProofs only [go_sem, *]); simp -implicitDefEqProofs only [go_sem, *]; repeat (refine And.intro (by first | omega | exact ⟨rfl, rfl⟩) ?_))
    (refine expH_go 13 rfl (by decide +kernel) ?_ ?_; (· simp -implicitDefEqProofs only [go_sem, *]); simp -implicitDefEqProofs only [go_sem, *]; repeat (refine And.intro (by first | omega | exact ⟨rfl, rfl⟩) ?_))
    refine expH_end (by decide +kernel) ?_
    simp -implicitDefEqProofs only [go_sem, true_and]
    (repeat' (first | ((with_reducible first | refine gon ?_ ?_ | refine gos ?_ ?_ | refine cdn ?_ ?_ | refine cds ?_ ?_ | refine gpn ?_ ?_ | refine gps ?_ ?_) <;> intro h <;> (try simp only [dt, df, gi, gt] at h) <;> try simp -implicitDefEqProofs only [go_sem, *]) | ((with_reducible refine And.intro ?_ ?_); (· first | omega | (simp only [List.length_take]; omega)); try simp -implicitDefEqProofs only [go_sem, *]) | first | ((with_reducible refine enter_pu (hld) ?_ ?_ ?_); (· rfl); (· rfl); try simp -implicitDefEqProofs only [go_sem, *]) | ((with_reducible refine enter_pu (hs1) ?_ ?_ ?_); (· rfl); (· rfl); try simp -implicitDefEqProofs only [go_sem, *]) | ((with_reducible refine cp_draw (id := 4) 27 mixed ?_ ?_ ?_); (· decide +kernel); (· first | (simp only [List.all_cons, List.all_nil, List.length_cons, List.length_nil, Nat.reduceAdd, Nat.reduceLT, decide_true, Bool.and_true, Bool.and_self]; done) | rfl); try simp -implicitDefEqProofs only [go_sem, *]) | ((with_reducible refine pre_enter _ (det_pu (hlf) ?_ ?_) ?_ ?_); (· rfl); (· rfl); (· rfl); try simp -implicitDefEqProofs only [go_sem, *]) | ((with_reducible refine pre_enter _ (det_pu (hs2) ?_ ?_) ?_ ?_); (· rfl); (· rfl); (· rfl); try simp -implicitDefEqProofs only [go_sem, *])))
    all_goals (refine fin_pu ?_ rfl; simp_all)
theorem mayI_fn (hl : LastC) (pc : PagesC) (e : Eng) (tx page : Int) (hw : Wf e.log) : Fn1 Tryz.prog 80 [.ro [.sl 3 (e.disk.map pD), .sl 3 (e.mem.map pD), .sl 8 (e.log.map rD), iD e.safe, .prim (.bool e.down)], I tx, I page]
    (Bo (!e.down && isIn tx 1 3 && isIn page 0 4 && ((((lastBy e.log page 3 : Nat) : Int) == 0) || (((lastBy e.log page 3 : Nat) : Int) == tx)))) := by
  have hlk := locks_fn hl pc e.log page hw
  refine fn1_of Tryz.func80 rfl rfl ?_
  simp -implicitDefEqProofs only [go_sem, Tryz.f80]
  (repeat' (first | ((with_reducible first | refine gon ?_ ?_ | refine gos ?_ ?_ | refine cdn ?_ ?_ | refine cds ?_ ?_ | refine gpn ?_ ?_ | refine gps ?_ ?_) <;> intro h <;> (try simp only [dt, df, gi, gt] at h) <;> try simp -implicitDefEqProofs only [go_sem, *]) | ((with_reducible refine And.intro ?_ ?_); (· first | omega | (simp only [List.length_take]; omega)); try simp -implicitDefEqProofs only [go_sem, *]) | first | ((with_reducible refine enter_pu (isTx_fn _) ?_ ?_ ?_); (· rfl); (· rfl); try simp -implicitDefEqProofs only [go_sem, *]) | ((with_reducible refine enter_pu (isPage_fn _) ?_ ?_ ?_); (· rfl); (· rfl); try simp -implicitDefEqProofs only [go_sem, *]) | ((with_reducible refine enter_pu (hlk) ?_ ?_ ?_); (· rfl); (· rfl); try simp -implicitDefEqProofs only [go_sem, *])))
  all_goals (refine fin_pu ?_ rfl; simp_all)
end
section
theorem EngineOkI_fn (hl : LastC) (hlo : LastOfC) (hrc : RecC) (pc : PagesC) (e : Eng) (hd : e.disk.length < 4611686018427387904) (hm : e.mem.length < 4611686018427387904) (hll : e.log.length < 4611686018427387904)
    (hdv : ∀ p ∈ e.disk, p.vals.length < 4611686018427387904) (hmv : ∀ p ∈ e.mem, p.vals.length < 4611686018427387904) : Fn1 Tryz.prog 33 [eA e] (Bo (okE e)) := by
  have c1 := pagesOk_fn _ hd hdv
  have c2 := pagesOk_fn _ hm hmv
  have c3 := LogOkI_fn hrc _ hll
  refine fn1_of Tryz.func33 rfl rfl ?_
  by_cases h1 : pgsOk e.disk = true
  rotate_left
  · simp -implicitDefEqProofs only [go_sem, Tryz.f33, h1]
    (repeat' (first | ((with_reducible first | refine gon ?_ ?_ | refine gos ?_ ?_ | refine cdn ?_ ?_ | refine cds ?_ ?_ | refine gpn ?_ ?_ | refine gps ?_ ?_) <;> intro h <;> (try simp only [dt, df, gi, gt] at h) <;> try simp -implicitDefEqProofs only [go_sem, *]) | ((with_reducible refine And.intro ?_ ?_); (· first | omega | (simp only [List.length_take]; omega)); try simp -implicitDefEqProofs only [go_sem, *]) | ((with_reducible refine enter_pu (c1) ?_ ?_ ?_); (· rfl); (· rfl); try simp -implicitDefEqProofs only [go_sem, *])))
    exact fin_pu (by simp [okE, h1]) rfl
  by_cases h2 : pgsOk e.mem = true
  rotate_left
  · simp -implicitDefEqProofs only [go_sem, Tryz.f33, h1, h2]
    (repeat' (first | ((with_reducible first | refine gon ?_ ?_ | refine gos ?_ ?_ | refine cdn ?_ ?_ | refine cds ?_ ?_ | refine gpn ?_ ?_ | refine gps ?_ ?_) <;> intro h <;> (try simp only [dt, df, gi, gt] at h) <;> try simp -implicitDefEqProofs only [go_sem, *]) | ((with_reducible refine And.intro ?_ ?_); (· first | omega | (simp only [List.length_take]; omega)); try simp -implicitDefEqProofs only [go_sem, *]) | first | ((with_reducible refine enter_pu (c1) ?_ ?_ ?_); (· rfl); (· rfl); try simp -implicitDefEqProofs only [go_sem, *]) | ((with_reducible refine enter_pu (c2) ?_ ?_ ?_); (· rfl); (· rfl); try simp -implicitDefEqProofs only [go_sem, *])))
    exact fin_pu (by simp [okE, h2]) rfl
  by_cases h3 : logOk e.log = true
  rotate_left
  · simp -implicitDefEqProofs only [go_sem, Tryz.f33, h1, h2, h3]
    (repeat' (first | ((with_reducible first | refine gon ?_ ?_ | refine gos ?_ ?_ | refine cdn ?_ ?_ | refine cds ?_ ?_ | refine gpn ?_ ?_ | refine gps ?_ ?_) <;> intro h <;> (try simp only [dt, df, gi, gt] at h) <;> try simp -implicitDefEqProofs only [go_sem, *]) | ((with_reducible refine And.intro ?_ ?_); (· first | omega | (simp only [List.length_take]; omega)); try simp -implicitDefEqProofs only [go_sem, *]) | first | ((with_reducible refine enter_pu (c1) ?_ ?_ ?_); (· rfl); (· rfl); try simp -implicitDefEqProofs only [go_sem, *]) | ((with_reducible refine enter_pu (c2) ?_ ?_ ?_); (· rfl); (· rfl); try simp -implicitDefEqProofs only [go_sem, *]) | ((with_reducible refine enter_pu (c3) ?_ ?_ ?_); (· rfl); (· rfl); try simp -implicitDefEqProofs only [go_sem, *])))
    exact fin_pu (by simp [okE, h3]) rfl
  have hw := wf_of h3
  have hsz := sz_of h1
  have hszm := sz_of h2
  have hlen := hw.len
  have c5 := fits_fn hl e.log hw
  by_cases h4 : isIn e.safe 0 e.log.length = true
  rotate_left
  · simp -implicitDefEqProofs only [go_sem, Tryz.f33, h1, h2, h3, h4]
    (repeat' (first | ((with_reducible first | refine gon ?_ ?_ | refine gos ?_ ?_ | refine cdn ?_ ?_ | refine cds ?_ ?_ | refine gpn ?_ ?_ | refine gps ?_ ?_) <;> intro h <;> (try simp only [dt, df, gi, gt] at h) <;> try simp -implicitDefEqProofs only [go_sem, *]) | ((with_reducible refine And.intro ?_ ?_); (· first | omega | (simp only [List.length_take]; omega)); try simp -implicitDefEqProofs only [go_sem, *]) | first | ((with_reducible refine enter_pu (c1) ?_ ?_ ?_); (· rfl); (· rfl); try simp -implicitDefEqProofs only [go_sem, *]) | ((with_reducible refine enter_pu (c2) ?_ ?_ ?_); (· rfl); (· rfl); try simp -implicitDefEqProofs only [go_sem, *]) | ((with_reducible refine enter_pu (c3) ?_ ?_ ?_); (· rfl); (· rfl); try simp -implicitDefEqProofs only [go_sem, *]) | ((with_reducible refine enter_pu (in_fn _ _ _) ?_ ?_ ?_); (· rfl); (· rfl); try simp -implicitDefEqProofs only [go_sem, *])))
    exact fin_pu (by simp [okE, h4]) rfl
  have hs0 : 0 ≤ e.safe ∧ e.safe ≤ e.log.length := by simpa [isIn] using h4
  have c6 := prefixesOk_fn hl e hsz hw hs0
  by_cases h5 : e.log.length + needTo e.log 3 ≤ 150
  rotate_left
  · have h5' : decide (e.log.length + needTo e.log 3 ≤ 150) = false := by simpa using h5
    rw [h5'] at c5
    simp -implicitDefEqProofs only [go_sem, Tryz.f33, h1, h2, h3, h4]
    (repeat' (first | ((with_reducible first | refine gon ?_ ?_ | refine gos ?_ ?_ | refine cdn ?_ ?_ | refine cds ?_ ?_ | refine gpn ?_ ?_ | refine gps ?_ ?_) <;> intro h <;> (try simp only [dt, df, gi, gt] at h) <;> try simp -implicitDefEqProofs only [go_sem, *]) | ((with_reducible refine And.intro ?_ ?_); (· first | omega | (simp only [List.length_take]; omega)); try simp -implicitDefEqProofs only [go_sem, *]) | first | ((with_reducible refine enter_pu (c1) ?_ ?_ ?_); (· rfl); (· rfl); try simp -implicitDefEqProofs only [go_sem, *]) | ((with_reducible refine enter_pu (c2) ?_ ?_ ?_); (· rfl); (· rfl); try simp -implicitDefEqProofs only [go_sem, *]) | ((with_reducible refine enter_pu (c3) ?_ ?_ ?_); (· rfl); (· rfl); try simp -implicitDefEqProofs only [go_sem, *]) | ((with_reducible refine enter_pu (in_fn _ _ _) ?_ ?_ ?_); (· rfl); (· rfl); try simp -implicitDefEqProofs only [go_sem, *]) | ((with_reducible refine enter_pu (c5) ?_ ?_ ?_); (· rfl); (· rfl); try simp -implicitDefEqProofs only [go_sem, *])))
    exact fin_pu (by simp [okE, h5]) rfl
  rw [show decide (e.log.length + needTo e.log 3 ≤ 150) = true by simpa using h5] at c5
  rcases h6 : allFrom (preB e) e.safe.toNat (e.log.length + 1) with _ | _
  · rw [h6] at c6
    simp -implicitDefEqProofs only [go_sem, Tryz.f33, h1, h2, h3, h4]
    (repeat' (first | ((with_reducible first | refine gon ?_ ?_ | refine gos ?_ ?_ | refine cdn ?_ ?_ | refine cds ?_ ?_ | refine gpn ?_ ?_ | refine gps ?_ ?_) <;> intro h <;> (try simp only [dt, df, gi, gt] at h) <;> try simp -implicitDefEqProofs only [go_sem, *]) | ((with_reducible refine And.intro ?_ ?_); (· first | omega | (simp only [List.length_take]; omega)); try simp -implicitDefEqProofs only [go_sem, *]) | first | ((with_reducible refine enter_pu (c1) ?_ ?_ ?_); (· rfl); (· rfl); try simp -implicitDefEqProofs only [go_sem, *]) | ((with_reducible refine enter_pu (c2) ?_ ?_ ?_); (· rfl); (· rfl); try simp -implicitDefEqProofs only [go_sem, *]) | ((with_reducible refine enter_pu (c3) ?_ ?_ ?_); (· rfl); (· rfl); try simp -implicitDefEqProofs only [go_sem, *]) | ((with_reducible refine enter_pu (in_fn _ _ _) ?_ ?_ ?_); (· rfl); (· rfl); try simp -implicitDefEqProofs only [go_sem, *]) | ((with_reducible refine enter_pu (c5) ?_ ?_ ?_); (· rfl); (· rfl); try simp -implicitDefEqProofs only [go_sem, *]) | ((with_reducible refine enter_pu (c6) ?_ ?_ ?_); (· rfl); (· rfl); try simp -implicitDefEqProofs only [go_sem, *])))
    exact fin_pu (by simp [okE, h6]) rfl
  have hk : allFrom (pgB e) 0 5 = okE e := by simp [okE, h1, h2, h3, h4, h5, h6]
  have hrk : pgsOk e.redo = true := by
    rw [allFrom_iff] at h6
    have := h6 e.log.length (by omega) (by omega)
    unfold preB at this
    simp only [Bool.and_eq_true] at this
    exact this.1
  rw [h6] at c6
  clear h6 h5
  have c7 := redoI_own e.disk e.log hsz hw
  have hr5 : e.redo.length = 5 := (sz_of hrk).len
  rw [show pgsOk (redoTo e.disk e.log e.log.length) = true from hrk] at c7
  simp -implicitDefEqProofs only [go_sem, Tryz.f33, h1, h2, h3, h4]
  (repeat' (first | ((with_reducible first | refine gon ?_ ?_ | refine gos ?_ ?_ | refine cdn ?_ ?_ | refine cds ?_ ?_ | refine gpn ?_ ?_ | refine gps ?_ ?_) <;> intro h <;> (try simp only [dt, df, gi, gt] at h) <;> try simp -implicitDefEqProofs only [go_sem, *]) | ((with_reducible refine And.intro ?_ ?_); (· first | omega | (simp only [List.length_take]; omega)); try simp -implicitDefEqProofs only [go_sem, *]) | first | ((with_reducible refine enter_pu (c1) ?_ ?_ ?_); (· rfl); (· rfl); try simp -implicitDefEqProofs only [go_sem, *]) | ((with_reducible refine enter_pu (c2) ?_ ?_ ?_); (· rfl); (· rfl); try simp -implicitDefEqProofs only [go_sem, *]) | ((with_reducible refine enter_pu (c3) ?_ ?_ ?_); (· rfl); (· rfl); try simp -implicitDefEqProofs only [go_sem, *]) | ((with_reducible refine enter_pu (in_fn _ _ _) ?_ ?_ ?_); (· rfl); (· rfl); try simp -implicitDefEqProofs only [go_sem, *]) | ((with_reducible refine enter_pu (c5) ?_ ?_ ?_); (· rfl); (· rfl); try simp -implicitDefEqProofs only [go_sem, *]) | ((with_reducible refine enter_pu (c6) ?_ ?_ ?_); (· rfl); (· rfl); try simp -implicitDefEqProofs only [go_sem, *]) | ((with_reducible refine enter_fn (c7) ?_ ?_); (· rfl); try simp -implicitDefEqProofs only [go_sem, *])))
  clear c1 c2 c3 c5 c6 c7
  refine cp_loop (fun p : Nat => ⟨(eA e :: .ref 0 5 0 0 :: Bo false :: .own 1 3 0 5 :: .any :: .any :: .any :: .any :: .any :: .any :: .any :: .any :: .any :: .any :: .any :: .any :: .any :: .any :: .any :: .any :: .any :: .any :: .any :: .any :: .any :: .any :: .any :: .any :: .any :: .any :: .any :: .any :: .any :: .any :: .any :: .any :: .any :: .any :: .any :: .any :: .any :: .any :: .any :: .any :: .any :: .any :: .any :: .any :: .any :: .any :: .any :: .any :: I (p : Int) :: .any :: .any :: .any :: .any :: .any :: .any :: .any :: .any :: .any :: .any :: .any :: .any :: .any :: .any :: .any :: .any :: .any :: .any :: .any :: .any :: .any :: .any :: .any :: .any :: .any :: .any :: .any :: .any :: .any :: .any :: .any :: .any :: .any :: .any :: .any :: .any :: .any :: .any :: .any :: .any :: .any :: .any :: .any :: .any :: .any :: .any :: .any :: .any :: .any :: .any :: .any :: .any :: .any :: .any :: []), [some ⟨5, [eA e]⟩, some ⟨3, e.redo.map pA⟩], []⟩) (fun p => p ≤ 5 ∧ allFrom (pgB e) p 5 = okE e) (fun p => 5 - p) 0 ?_ ?_ ?_
  · exact ⟨by omega, hk⟩
  · refine wk_tm ?_; repeat (first | exact WL.nil | (with_reducible refine WL.any _ _ _ ?_) | (with_reducible refine WL.same _ _ _ ?_) | (refine WL.eq _ _ _ _ rfl ?_))
  · clear hk
    rintro p ⟨hp, hg⟩
    by_cases hp5 : p < 5
    rotate_left
    · have hp5' : ¬ (p : Int) < 5 := by omega
      rw [allFrom_ge hp5] at hg
      simp -implicitDefEqProofs only [go_sem, hp5']
      refine fin_pu ?_ rfl
      rw [← hg]
    have hp5' : (p : Int) < 5 := by omega
    rw [allFrom_lt hp5] at hg
    have hm5 := hszm.len
    have hd5 := hsz.len
    have hb : p < 4611686018427387904 := by omega
    have hlk := locks_fn hl pc e.log p hw
    have hs1 := same_fn (at' e.mem (p : Int)) (at' e.disk (p : Int)) (by rw [hszm.sz p hp5]; omega)
    have hmo : ∀ d : Bool, e.down = d → Fn1 Tryz.prog 92 [.agg [pgs e.disk, pgs e.mem, recs e.log, I e.safe, Bo d], I p, pA (at' e.redo (p : Int))] (Bo (memB e p)) := by
      rintro d rfl
      exact memOk_fn hl hlo pc e p _ hp5 hw hszm hsz rfl ((sz_of hrk).sz p hp5)
    clear h1 h2 h3 h4 hrk
    rcases hdn : e.down with _ | _
    · have hmo := hmo false hdn
      simp -implicitDefEqProofs only [go_sem, hp5', hb]
      (repeat' (first | ((with_reducible first | refine gon ?_ ?_ | refine gos ?_ ?_ | refine cdn ?_ ?_ | refine cds ?_ ?_ | refine gpn ?_ ?_ | refine gps ?_ ?_) <;> intro h <;> (try simp only [dt, df, gi, gt] at h) <;> try simp -implicitDefEqProofs only [go_sem, *]) | ((with_reducible refine And.intro ?_ ?_); (· first | omega | (simp only [List.length_take]; omega)); try simp -implicitDefEqProofs only [go_sem, *]) | first | ((with_reducible refine enter_pu (hlk) ?_ ?_ ?_); (· rfl); (· rfl); try simp -implicitDefEqProofs only [go_sem, *]) | ((with_reducible refine cp_draw (id := 8) 13 mixed ?_ ?_ ?_); (· decide +kernel); (· first | (simp only [List.all_cons, List.all_nil, List.length_cons, List.length_nil, Nat.reduceAdd, Nat.reduceLT, decide_true, Bool.and_true, Bool.and_self]; done) | rfl); try simp -implicitDefEqProofs only [go_sem, *]) | ((with_reducible refine cp_draw (id := 10) 31 mixed ?_ ?_ ?_); (· decide +kernel); (· first | (simp only [List.all_cons, List.all_nil, List.length_cons, List.length_nil, Nat.reduceAdd, Nat.reduceLT, decide_true, Bool.and_true, Bool.and_self]; done) | rfl); try simp -implicitDefEqProofs only [go_sem, *]) | ((with_reducible refine pre_enter _ (det_pu (hs1) ?_ ?_) ?_ ?_); (· rfl); (· rfl); (· rfl); try simp -implicitDefEqProofs only [go_sem, *]) | ((with_reducible refine pre_enter _ (det_pu (hmo) ?_ ?_) ?_ ?_); (· rfl); (· rfl); (· rfl); try simp -implicitDefEqProofs only [go_sem, *])))
      all_goals first
        | (refine fin_pu ?_ rfl
           refine pgB_leaf hg ?_
           unfold pgB
           rw [show decide ((at' e.disk (p : Int)).lsn ≤ e.safe) = false by simp; omega]
           rfl)
        | (refine fin_pu ?_ rfl
           refine pgB_leaf hg ?_
           unfold pgB
           clear hg
           simp_all
           done)
        | (refine ⟨p + 1, ⟨by omega, leafT hg ?_⟩, by omega, ?_⟩
           · unfold pgB
             clear hg
             simp_all
           · refine wk_tm ?_; repeat (first | exact WL.nil | (with_reducible refine WL.any _ _ _ ?_) | (with_reducible refine WL.same _ _ _ ?_) | (refine WL.eq _ _ _ _ rfl ?_)))
    · clear hmo
      simp -implicitDefEqProofs only [go_sem, hp5', hb]
      (repeat' (first | ((with_reducible first | refine gon ?_ ?_ | refine gos ?_ ?_ | refine cdn ?_ ?_ | refine cds ?_ ?_ | refine gpn ?_ ?_ | refine gps ?_ ?_) <;> intro h <;> (try simp only [dt, df, gi, gt] at h) <;> try simp -implicitDefEqProofs only [go_sem, *]) | ((with_reducible refine And.intro ?_ ?_); (· first | omega | (simp only [List.length_take]; omega)); try simp -implicitDefEqProofs only [go_sem, *]) | first | ((with_reducible refine enter_pu (hlk) ?_ ?_ ?_); (· rfl); (· rfl); try simp -implicitDefEqProofs only [go_sem, *]) | ((with_reducible refine cp_draw (id := 8) 13 mixed ?_ ?_ ?_); (· decide +kernel); (· first | (simp only [List.all_cons, List.all_nil, List.length_cons, List.length_nil, Nat.reduceAdd, Nat.reduceLT, decide_true, Bool.and_true, Bool.and_self]; done) | rfl); try simp -implicitDefEqProofs only [go_sem, *]) | ((with_reducible refine cp_draw (id := 10) 31 mixed ?_ ?_ ?_); (· decide +kernel); (· first | (simp only [List.all_cons, List.all_nil, List.length_cons, List.length_nil, Nat.reduceAdd, Nat.reduceLT, decide_true, Bool.and_true, Bool.and_self]; done) | rfl); try simp -implicitDefEqProofs only [go_sem, *]) | ((with_reducible refine pre_enter _ (det_pu (hs1) ?_ ?_) ?_ ?_); (· rfl); (· rfl); (· rfl); try simp -implicitDefEqProofs only [go_sem, *])))
      all_goals first
        | (refine fin_pu ?_ rfl
           refine pgB_leaf hg ?_
           unfold pgB
           rw [show decide ((at' e.disk (p : Int)).lsn ≤ e.safe) = false by simp; omega]
           rfl)
        | (refine fin_pu ?_ rfl
           refine pgB_leaf hg ?_
           unfold pgB
           clear hg
           simp_all
           done)
        | (refine ⟨p + 1, ⟨by omega, leafT hg ?_⟩, by omega, ?_⟩
           · unfold pgB
             clear hg
             simp_all
           · refine wk_tm ?_; repeat (first | exact WL.nil | (with_reducible refine WL.any _ _ _ ?_) | (with_reducible refine WL.same _ _ _ ?_) | (refine WL.eq _ _ _ _ rfl ?_)))
theorem lastBy_lock {l : List Rc} {page : Int} (h : heldTo l page 3 ≤ 1) : lastBy l page 3 = lockFrom l page 0 := by
  rw [lockFrom_lt (by omega), lockFrom_lt (by omega), lockFrom_lt (by omega), lockFrom_ge (by omega)]
  simp only [lastBy, heldTo] at h ⊢
  by_cases h1 : hasIn l ((0 + 1 : Nat) : Int) page = true <;> by_cases h2 : hasIn l ((1 + 1 : Nat) : Int) page = true <;> by_cases h3 : hasIn l ((2 + 1 : Nat) : Int) page = true <;> simp_all
theorem okE_held {e : Eng} (h : okE e = true) {page : Int} (hp : 0 ≤ page ∧ page ≤ 4) : heldTo e.log page 3 ≤ 1 := by
  unfold okE at h
  simp only [Bool.and_eq_true, allFrom_iff] at h
  have := h.2 page.toNat (by omega) (by omega)
  unfold pgB at this
  simp only [Bool.and_eq_true, decide_eq_true_eq] at this
  rw [show ((page.toNat : Nat) : Int) = page by omega] at this
  exact this.2
theorem may_eq {e : Eng} (h : okE e = true) (tx page : Int) : (!e.down && isIn tx 1 3 && isIn page 0 4 && ((((lastBy e.log page 3 : Nat) : Int) == 0) || (((lastBy e.log page 3 : Nat) : Int) == tx))) = mayB e tx page := by
  unfold mayB
  by_cases hp : isIn page 0 4 = true
  · have hp' : 0 ≤ page ∧ page ≤ 4 := by simpa [isIn] using hp
    rw [lastBy_lock (okE_held h hp')]
    congr 1
    rw [Bool.eq_iff_iff]
    simp
  · simp [hp]
end
end Go.Proofs.YtfcnajhanjhonaaGreat.Am
end
