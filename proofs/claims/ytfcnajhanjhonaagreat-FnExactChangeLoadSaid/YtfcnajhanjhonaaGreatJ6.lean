/- Lemmas and walks: Xv Xw Xx Xy Xz Ya Yb Yc Yd Yg. No conditions. -/
import Derived.Test.YtfcnajhanjhonaaGreatJ5
import Derived.Test.YtfcnajhanjhonaaGreatJ2
import Derived.Laws.Strings
section
set_option linter.unusedVariables false
set_option linter.unusedSimpArgs false
set_option maxRecDepth 100000
set_option maxHeartbeats 8000000
namespace Go.Proofs.YtfcnajhanjhonaaGreat.Am
open Go Go.RowKit Go.Proofs
attribute [local go_sem_proc] Nat.reduceAdd Nat.reduceSub Nat.reduceMul Nat.reduceLT Nat.reduceLeDiff Nat.reduceEqDiff Int.reduceBEq Int.reduceBNe Int.reduceNeg Int.reduceSub Int.reduceLE Int.reduceLT
attribute [local go_sem_proc ↓] reduceIte
attribute [local congr] opsP_congr codeP_congr AWP_congr afterR_congr preP_congr afterPre_congr gPre_congr gOps_congr condP_congr stepE_congr
attribute [local go_sem] ty_int ty_bool ty_str ty_u8 ty_ints ty_bytes ty_page ty_pages ty_lpage ty_lpages ty_rec ty_recs ty_lrec ty_lrecs ty_eng ty_leng
attribute [local go_sem] true_and and_true beq_true' beq_false' toNat_cast Int.natCast_nonneg Bool.not_not Bool.not_true Bool.not_false decide_true decide_false Bool.or_false Bool.false_or Bool.or_true Bool.true_or Bool.and_false Bool.false_and Nat.zero_add Int.toNat_of_nonneg wrap_succ wrap_m1 wrap_nat succ_m1 cast0 succ_pos' succ_ne' succ_bne' ge_iff_le gt_iff_lt if_true if_false
section
attribute [local go_sem] slt_r slt_I slt_p
def cells (e : Eng) : List D := [.sl 3 (e.disk.map pD), .sl 3 (e.mem.map pD), .sl 8 (e.log.map rD), iD e.safe, .prim (.bool e.down)]
theorem see_ptr {S : Store} {e : Eng} {i a b c n m k : Nat} (ha : Sees S true (.own a 3 0 n) (pgs e.disk)) (hb : Sees S true (.own b 3 0 m) (pgs e.mem)) (hc : Sees S true (.own c 8 0 k) (recs e.log))
    (ho : getO S i = some ⟨5, [.agg [.own a 3 0 n, .own b 3 0 m, .own c 8 0 k, I e.safe, Bo e.down]]⟩) : Sees S true (.ref i 5 0 0) (.ro (cells e)) := by
  refine see_ref ho rfl (by simp) (by decide) rfl ?_ ?_
  · intro j d hd
    rw [Nat.zero_add]
    rcases j with _ | _ | _ | _ | _ | j
    · cases hd; exact ⟨_, rfl, ha⟩
    · cases hd; exact ⟨_, rfl, hb⟩
    · cases hd; exact ⟨_, rfl, hc⟩
    · cases hd; exact ⟨_, rfl, see_same rfl⟩
    · cases hd; exact ⟨_, rfl, see_same rfl⟩
    · cases hd
  · intro d hd
    simp only [cells, List.mem_cons, List.not_mem_nil, or_false] at hd
    rcases hd with rfl | rfl | rfl | rfl | rfl <;> rfl
theorem see_caps {S : Store} : ∀ {caps : List AV}, caps.all AV.pur0 = true → All2 (Sees S true) caps caps
  | [], _ => .nil
  | x :: xs, h => by
    rw [List.all_cons, Bool.and_eq_true] at h
    refine .cons _ _ _ _ (see_same ?_) (see_caps h.2)
    have h1 := h.1
    cases x <;> simp [AV.pur0] at h1 <;> rfl
theorem has_two {o1 o2 : Option AObj} {X T : Store} : Has (o1 :: o2 :: (X ++ T)) 2 X := by
  have : o1 :: o2 :: (X ++ T) = [o1, o2] ++ (X ++ T) := rfl
  rw [this]
  exact has_mid rfl
/-- The engine that change has of its own, as its callees see it. -/
theorem see_15 {o1 o2 : Option AObj} {T : Store} {e : Eng} (hd : e.disk.length = 5) (hm : e.mem.length = 5) (bb : Bool) (hb : e.down = bb) :
    Sees (o1 :: o2 :: (s13 2 e ++ some ⟨5, [.agg [.own 2 3 0 5, .own 8 3 0 5, .own 14 8 0 e.log.length, I e.safe, Bo bb]]⟩ :: T)) true (.ref 15 5 0 0) (.ro (cells e)) := by
  subst hb
  obtain ⟨S, hS⟩ : ∃ S, S = o1 :: o2 :: (s13 2 e ++ some ⟨5, [.agg [.own 2 3 0 5, .own 8 3 0 5, .own 14 8 0 e.log.length, I e.safe, Bo e.down]]⟩ :: T) := ⟨_, rfl⟩
  have hh : Has S 2 (s13 2 e) := by rw [hS]; exact has_two
  have g15 : getO S 15 = some ⟨5, [.agg [.own 2 3 0 5, .own 8 3 0 5, .own 14 8 0 e.log.length, I e.safe, Bo e.down]]⟩ := by rw [hS]; rfl
  have g14 : getO S 14 = some ⟨8, e.log.map rA⟩ := by rw [hS]; rfl
  rw [← hS]
  rw [← dS_13 hd hm] at hh
  unfold dS at hh
  have h2 := hh.right
  rw [dP_len, hd] at h2
  exact see_ptr (see_dP hh.left hd.symm) (see_dP h2.left hm.symm) (see_recs g14 rfl) g15
/-- What changing hands back, when it is done. -/
theorem change_ok (e : Eng) (tx page : Int) (g1 g2 : FuncId) (caps1 caps2 : List AV) (e' : Eng) (hok : okE e = true) (hs : e.small) (hmay : mayB e tx page = true) (hd' : e'.disk.length = 5) (hm' : e'.mem.length = 5)
    (hc1 : caps1.all AV.pur0 = true) (hc2 : caps2.all AV.pur0 = true) (hh : Fn1 Tryz.prog g1 (.ro (cells e) :: caps1) (Bo true)) (hw : AFn1 Tryz.prog g2 (.ref 13 5 0 0 :: caps2) (sD e) (.tup []) (sD e') M13)
    (hwf : Wf e'.log) (hf : e'.log.length + needTo e'.log 3 ≤ 150) :
    Fn Tryz.prog 46 [eA e, I tx, I page, .clo g1 caps1, .clo g2 caps2] (fun r S => r = dR (e', true) ∧ S = dS 0 e') := by
  have hi := inv_of_ok hok
  have hlen := hi.len
  have hd5 := hi.disk.len
  have hm5 := hi.mem.len
  have c1 := okI e hs
  rw [hok] at c1
  have c2 := copiedE_deep e hi.disk.sz hi.mem.sz (by omega)
  have c3 : Fn1 Tryz.prog 80 [.ro (cells e), I tx, I page] (Bo true) := by
    have := mayI_fn lastC (pagesC lastC) e tx page hi.wf
    rw [may_eq hok, hmay] at this
    exact this
  have c4 := fits_fn lastC e'.log hwf
  rw [decide_eq_true hf] at c4
  obtain ⟨d, hdn⟩ : ∃ d, e.down = d := ⟨_, rfl⟩
  replace hdn := Hid.mk' hdn
  clear hok hi
  refine fn_of Tryz.func46 rfl rfl ?_
  simp -implicitDefEqProofs only [go_sem, Tryz.f46]
  (repeat' (first | ((with_reducible first | refine gon ?_ ?_ | refine gos ?_ ?_ | refine cdn ?_ ?_ | refine cds ?_ ?_ | refine gpn ?_ ?_ | refine gps ?_ ?_) <;> intro h <;> (try simp only [dt, df, gi, gt] at h) <;> try simp -implicitDefEqProofs only [go_sem, *]) | ((with_reducible refine And.intro ?_ ?_); (· first | omega | (simp only [List.length_take]; omega)); try simp -implicitDefEqProofs only [go_sem, *]) | ((with_reducible refine enter_pu (c1) ?_ ?_ ?_); (· rfl); (· rfl); try simp -implicitDefEqProofs only [go_sem, *])))
  refine enter_fnE 2 8 14 rfl (by omega) (by omega) c2 rfl ?_
  intro A hA
  rw [dS_13 hd5 hm5] at hA
  subst hA
  simp only [s13, dV, hd5, hm5, List.cons_append, List.nil_append]
  simp -implicitDefEqProofs only [go_sem, true_and]
  refine enter_see1 c3 (.cons _ _ _ _ (see_15 hd5 hm5 _ rfl) (.cons _ _ _ _ (see_same rfl) (.cons _ _ _ _ (see_same rfl) .nil))) rfl rfl ?_
  simp -implicitDefEqProofs only [go_sem, true_and]
  refine enter_see1 hh (.cons _ _ _ _ (see_15 hd5 hm5 _ rfl) (see_caps hc1)) rfl rfl ?_
  simp -implicitDefEqProofs only [go_sem, true_and]
  refine enter_midM 2 (A := [_, _]) (X0 := sD e) (X1 := sD e') (B := []) (args' := .ref 13 5 0 0 :: caps2) [2, 3, 4, 5, 6, 7, 8, 9, 10, 11, 12, 13, 14] hw (by rw [sh_sD]; rfl) rfl rfl (cl_sD hd5 hm5) (cl_sD hd' hm') rfl ?_ ?_ (by rw [sD_len]; decide) rfl rfl rfl ?_
  · rw [List.map_cons, sh_caps hc2]
    rfl
  · rw [List.all_cons, sD_len, cl_caps hc2]
    rfl
  rw [sh_sD]
  simp only [s13, scT, List.cons_append, List.nil_append]
  have hs15 : ∀ k, AV.sc [2, 3, 4, 5, 6, 7, 8, 9, 10, 11, 12, 13, 14] (.ref 15 5 0 k) = .ref 15 5 0 k := fun k => rfl
  have hs1 : ∀ k, AV.sc [2, 3, 4, 5, 6, 7, 8, 9, 10, 11, 12, 13, 14] (.ref 1 5 0 k) = .ref 1 5 0 k := fun k => rfl
  have hs0 : ∀ k, AV.sc [2, 3, 4, 5, 6, 7, 8, 9, 10, 11, 12, 13, 14] (.ref 0 5 0 k) = .ref 0 5 0 k := fun k => rfl
  simp -implicitDefEqProofs only [go_sem, hs15, hs1, hs0]
  refine enter_see1 c4 (.cons _ _ _ _ (see_recs rfl rfl) .nil) rfl rfl ?_
  simp -implicitDefEqProofs only [go_sem, true_and]
  exact fin_dE5 e' hd' hm'
theorem change_full (e : Eng) (tx page : Int) (g1 g2 : FuncId) (caps1 caps2 : List AV) (e' : Eng) (hok : okE e = true) (hs : e.small) (hmay : mayB e tx page = true) (hd' : e'.disk.length = 5) (hm' : e'.mem.length = 5)
    (hc1 : caps1.all AV.pur0 = true) (hc2 : caps2.all AV.pur0 = true) (hh : Fn1 Tryz.prog g1 (.ro (cells e) :: caps1) (Bo true)) (hw : AFn1 Tryz.prog g2 (.ref 13 5 0 0 :: caps2) (sD e) (.tup []) (sD e') M13)
    (hwf : Wf e'.log) (hf : ¬ (e'.log.length + needTo e'.log 3 ≤ 150)) :
    Fn Tryz.prog 46 [eA e, I tx, I page, .clo g1 caps1, .clo g2 caps2] (fun r S => r = dR (e, false) ∧ S = dS 0 e) := by
  have hi := inv_of_ok hok
  have hlen := hi.len
  have hd5 := hi.disk.len
  have hm5 := hi.mem.len
  have c1 := okI e hs
  rw [hok] at c1
  have c2 := copiedE_deep e hi.disk.sz hi.mem.sz (by omega)
  have c3 : Fn1 Tryz.prog 80 [.ro (cells e), I tx, I page] (Bo true) := by
    have := mayI_fn lastC (pagesC lastC) e tx page hi.wf
    rw [may_eq hok, hmay] at this
    exact this
  have c4 := fits_fn lastC e'.log hwf
  rw [decide_eq_false hf] at c4
  obtain ⟨d, hdn⟩ : ∃ d, e.down = d := ⟨_, rfl⟩
  replace hdn := Hid.mk' hdn
  clear hok hi
  refine fn_of Tryz.func46 rfl rfl ?_
  simp -implicitDefEqProofs only [go_sem, Tryz.f46]
  (repeat' (first | ((with_reducible first | refine gon ?_ ?_ | refine gos ?_ ?_ | refine cdn ?_ ?_ | refine cds ?_ ?_ | refine gpn ?_ ?_ | refine gps ?_ ?_) <;> intro h <;> (try simp only [dt, df, gi, gt] at h) <;> try simp -implicitDefEqProofs only [go_sem, *]) | ((with_reducible refine And.intro ?_ ?_); (· first | omega | (simp only [List.length_take]; omega)); try simp -implicitDefEqProofs only [go_sem, *]) | ((with_reducible refine enter_pu (c1) ?_ ?_ ?_); (· rfl); (· rfl); try simp -implicitDefEqProofs only [go_sem, *])))
  refine enter_fnE 2 8 14 rfl (by omega) (by omega) c2 rfl ?_
  intro A hA
  rw [dS_13 hd5 hm5] at hA
  subst hA
  simp only [s13, dV, hd5, hm5, List.cons_append, List.nil_append]
  simp -implicitDefEqProofs only [go_sem, true_and]
  refine enter_see1 c3 (.cons _ _ _ _ (see_15 hd5 hm5 _ rfl) (.cons _ _ _ _ (see_same rfl) (.cons _ _ _ _ (see_same rfl) .nil))) rfl rfl ?_
  simp -implicitDefEqProofs only [go_sem, true_and]
  refine enter_see1 hh (.cons _ _ _ _ (see_15 hd5 hm5 _ rfl) (see_caps hc1)) rfl rfl ?_
  simp -implicitDefEqProofs only [go_sem, true_and]
  refine enter_midM 2 (A := [_, _]) (X0 := sD e) (X1 := sD e') (B := []) (args' := .ref 13 5 0 0 :: caps2) [2, 3, 4, 5, 6, 7, 8, 9, 10, 11, 12, 13, 14] hw (by rw [sh_sD]; rfl) rfl rfl (cl_sD hd5 hm5) (cl_sD hd' hm') rfl ?_ ?_ (by rw [sD_len]; decide) rfl rfl rfl ?_
  · rw [List.map_cons, sh_caps hc2]
    rfl
  · rw [List.all_cons, sD_len, cl_caps hc2]
    rfl
  rw [sh_sD]
  simp only [s13, scT, List.cons_append, List.nil_append]
  have hs15 : ∀ k, AV.sc [2, 3, 4, 5, 6, 7, 8, 9, 10, 11, 12, 13, 14] (.ref 15 5 0 k) = .ref 15 5 0 k := fun k => rfl
  have hs1 : ∀ k, AV.sc [2, 3, 4, 5, 6, 7, 8, 9, 10, 11, 12, 13, 14] (.ref 1 5 0 k) = .ref 1 5 0 k := fun k => rfl
  have hs0 : ∀ k, AV.sc [2, 3, 4, 5, 6, 7, 8, 9, 10, 11, 12, 13, 14] (.ref 0 5 0 k) = .ref 0 5 0 k := fun k => rfl
  simp -implicitDefEqProofs only [go_sem, hs15, hs1, hs0]
  refine enter_see1 c4 (.cons _ _ _ _ (see_recs rfl rfl) .nil) rfl rfl ?_
  simp -implicitDefEqProofs only [go_sem, true_and]
  obtain ⟨T, hT⟩ : ∃ T, T = dS 16 e := ⟨_, rfl⟩
  refine enter_fnE 16 22 28 rfl (by omega) (by omega) c2 rfl ?_
  intro A hA
  rw [← hT] at hA
  subst hA
  simp only [dV, hd5, hm5, List.cons_append, List.nil_append]
  simp -implicitDefEqProofs only [go_sem, true_and]
  have key : ∀ {S : Store} {mv : List Nat}, S.drop 16 = dS 16 e → 16 ≤ S.length → Fin 0 (.tup [.agg [.own 16 3 0 5, .own 22 3 0 5, .own 28 8 0 e.log.length, I e.safe, Bo e.down], Bo false]) S mv (fun r S' mv => (r = dR (e, false) ∧ S' = dS 0 e) ∧ mv = []) := fun {S mv} h1 h2 => by
    have := fin_dVd (mv := mv) 16 22 28 e (bb := false) h1 h2 (by omega) (by omega)
    rw [dV, hd5, hm5] at this
    exact this
  refine key ?_ (by simp)
  rw [← hT]
  rfl
theorem change_hold (e : Eng) (tx page : Int) (g1 g2 : FuncId) (caps1 caps2 : List AV) (hok : okE e = true) (hs : e.small) (hmay : mayB e tx page = true)
    (hc1 : caps1.all AV.pur0 = true) (hh : Fn1 Tryz.prog g1 (.ro (cells e) :: caps1) (Bo false)) :
    Fn Tryz.prog 46 [eA e, I tx, I page, .clo g1 caps1, .clo g2 caps2] (fun r S => r = dR (e, false) ∧ S = dS 0 e) := by
  have hi := inv_of_ok hok
  have hlen := hi.len
  have hd5 := hi.disk.len
  have hm5 := hi.mem.len
  have c1 := okI e hs
  rw [hok] at c1
  have c2 := copiedE_deep e hi.disk.sz hi.mem.sz (by omega)
  have c3 : Fn1 Tryz.prog 80 [.ro (cells e), I tx, I page] (Bo true) := by
    have := mayI_fn lastC (pagesC lastC) e tx page hi.wf
    rw [may_eq hok, hmay] at this
    exact this
  obtain ⟨d, hdn⟩ : ∃ d, e.down = d := ⟨_, rfl⟩
  replace hdn := Hid.mk' hdn
  clear hok hi
  refine fn_of Tryz.func46 rfl rfl ?_
  simp -implicitDefEqProofs only [go_sem, Tryz.f46]
  (repeat' (first | ((with_reducible first | refine gon ?_ ?_ | refine gos ?_ ?_ | refine cdn ?_ ?_ | refine cds ?_ ?_ | refine gpn ?_ ?_ | refine gps ?_ ?_) <;> intro h <;> (try simp only [dt, df, gi, gt] at h) <;> try simp -implicitDefEqProofs only [go_sem, *]) | ((with_reducible refine And.intro ?_ ?_); (· first | omega | (simp only [List.length_take]; omega)); try simp -implicitDefEqProofs only [go_sem, *]) | ((with_reducible refine enter_pu (c1) ?_ ?_ ?_); (· rfl); (· rfl); try simp -implicitDefEqProofs only [go_sem, *])))
  refine enter_fnE 2 8 14 rfl (by omega) (by omega) c2 rfl ?_
  intro A hA
  rw [dS_13 hd5 hm5] at hA
  subst hA
  simp only [s13, dV, hd5, hm5, List.cons_append, List.nil_append]
  simp -implicitDefEqProofs only [go_sem, true_and]
  refine enter_see1 c3 (.cons _ _ _ _ (see_15 hd5 hm5 _ rfl) (.cons _ _ _ _ (see_same rfl) (.cons _ _ _ _ (see_same rfl) .nil))) rfl rfl ?_
  simp -implicitDefEqProofs only [go_sem, true_and]
  refine enter_see1 hh (.cons _ _ _ _ (see_15 hd5 hm5 _ rfl) (see_caps hc1)) rfl rfl ?_
  simp -implicitDefEqProofs only [go_sem, true_and]
  exact fin_dE5 e hd5 hm5
theorem change_may (e : Eng) (tx page : Int) (g1 g2 : FuncId) (caps1 caps2 : List AV) (hok : okE e = true) (hs : e.small) (hmay : mayB e tx page = false)
    :
    Fn Tryz.prog 46 [eA e, I tx, I page, .clo g1 caps1, .clo g2 caps2] (fun r S => r = dR (e, false) ∧ S = dS 0 e) := by
  have hi := inv_of_ok hok
  have hlen := hi.len
  have hd5 := hi.disk.len
  have hm5 := hi.mem.len
  have c1 := okI e hs
  rw [hok] at c1
  have c2 := copiedE_deep e hi.disk.sz hi.mem.sz (by omega)
  have c3 : Fn1 Tryz.prog 80 [.ro (cells e), I tx, I page] (Bo false) := by
    have := mayI_fn lastC (pagesC lastC) e tx page hi.wf
    rw [may_eq hok, hmay] at this
    exact this
  obtain ⟨d, hdn⟩ : ∃ d, e.down = d := ⟨_, rfl⟩
  replace hdn := Hid.mk' hdn
  clear hok hi
  refine fn_of Tryz.func46 rfl rfl ?_
  simp -implicitDefEqProofs only [go_sem, Tryz.f46]
  (repeat' (first | ((with_reducible first | refine gon ?_ ?_ | refine gos ?_ ?_ | refine cdn ?_ ?_ | refine cds ?_ ?_ | refine gpn ?_ ?_ | refine gps ?_ ?_) <;> intro h <;> (try simp only [dt, df, gi, gt] at h) <;> try simp -implicitDefEqProofs only [go_sem, *]) | ((with_reducible refine And.intro ?_ ?_); (· first | omega | (simp only [List.length_take]; omega)); try simp -implicitDefEqProofs only [go_sem, *]) | ((with_reducible refine enter_pu (c1) ?_ ?_ ?_); (· rfl); (· rfl); try simp -implicitDefEqProofs only [go_sem, *])))
  refine enter_fnE 2 8 14 rfl (by omega) (by omega) c2 rfl ?_
  intro A hA
  rw [dS_13 hd5 hm5] at hA
  subst hA
  simp only [s13, dV, hd5, hm5, List.cons_append, List.nil_append]
  simp -implicitDefEqProofs only [go_sem, true_and]
  refine enter_see1 c3 (.cons _ _ _ _ (see_15 hd5 hm5 _ rfl) (.cons _ _ _ _ (see_same rfl) (.cons _ _ _ _ (see_same rfl) .nil))) rfl rfl ?_
  simp -implicitDefEqProofs only [go_sem, true_and]
  exact fin_dE5 e hd5 hm5
theorem change_bad (e : Eng) (tx page : Int) (g1 g2 : FuncId) (caps1 caps2 : List AV) (hok : okE e = false) (hs : e.small) :
    Fn Tryz.prog 46 [eA e, I tx, I page, .clo g1 caps1, .clo g2 caps2] (fun r S => r = .tup [zA, Bo false] ∧ S = []) := by
  have c1 := okI e hs
  rw [hok] at c1
  refine fn_of Tryz.func46 rfl rfl ?_
  simp -implicitDefEqProofs only [go_sem, Tryz.f46]
  (repeat' (first | ((with_reducible first | refine gon ?_ ?_ | refine gos ?_ ?_ | refine cdn ?_ ?_ | refine cds ?_ ?_ | refine gpn ?_ ?_ | refine gps ?_ ?_) <;> intro h <;> (try simp only [dt, df, gi, gt] at h) <;> try simp -implicitDefEqProofs only [go_sem, *]) | ((with_reducible refine And.intro ?_ ?_); (· first | omega | (simp only [List.length_take]; omega)); try simp -implicitDefEqProofs only [go_sem, *]) | ((with_reducible refine enter_pu (c1) ?_ ?_ ?_); (· rfl); (· rfl); try simp -implicitDefEqProofs only [go_sem, *])))
  exact fin_z
end
section
attribute [local go_sem] slt_r slt_I slt_p
section
variable {P : Program}
theorem enter_at0 {f : FuncId} {args : List AV} {r : AV} {d : Tmp} {tm : List AV} {S : Store} {mv : List Nat} {K : St → Prop} (h : AFn1 P f args S r S []) (hk : K ⟨tm.set d r, S, mv⟩) : afterR P (.enter f args) (some d) ⟨tm, S, mv⟩ K := by
  refine enter_any h ?_
  rintro r' S' mv' ⟨rfl, rfl, rfl⟩
  exact hk
end
theorem PageEmptyI_fn (p : Pg) (hb : p.vals.length < 4611686018427387904) : Fn1 Tryz.prog 42 [pA p] (Bo (p.ok && allZero p.vals)) := by
  have c1 := PageOkI_fn p hb
  have c2 := allZero_fn p.vals hb
  refine fn1_of Tryz.func42 rfl rfl ?_
  rcases h : p.ok with _ | _
  · rw [h] at c1
    simp -implicitDefEqProofs only [go_sem, Tryz.f42]
    (repeat' (first | ((with_reducible first | refine gon ?_ ?_ | refine gos ?_ ?_ | refine cdn ?_ ?_ | refine cds ?_ ?_ | refine gpn ?_ ?_ | refine gps ?_ ?_) <;> intro h <;> (try simp only [dt, df, gi, gt] at h) <;> try simp -implicitDefEqProofs only [go_sem, *]) | ((with_reducible refine And.intro ?_ ?_); (· first | omega | (simp only [List.length_take]; omega)); try simp -implicitDefEqProofs only [go_sem, *]) | first | ((with_reducible refine enter_pu (c1) ?_ ?_ ?_); (· rfl); (· rfl); try simp -implicitDefEqProofs only [go_sem, *]) | ((with_reducible refine enter_pu (c2) ?_ ?_ ?_); (· rfl); (· rfl); try simp -implicitDefEqProofs only [go_sem, *])))
    all_goals exact fin_pu rfl rfl
  · rw [h] at c1
    simp -implicitDefEqProofs only [go_sem, Tryz.f42]
    (repeat' (first | ((with_reducible first | refine gon ?_ ?_ | refine gos ?_ ?_ | refine cdn ?_ ?_ | refine cds ?_ ?_ | refine gpn ?_ ?_ | refine gps ?_ ?_) <;> intro h <;> (try simp only [dt, df, gi, gt] at h) <;> try simp -implicitDefEqProofs only [go_sem, *]) | ((with_reducible refine And.intro ?_ ?_); (· first | omega | (simp only [List.length_take]; omega)); try simp -implicitDefEqProofs only [go_sem, *]) | first | ((with_reducible refine enter_pu (c1) ?_ ?_ ?_); (· rfl); (· rfl); try simp -implicitDefEqProofs only [go_sem, *]) | ((with_reducible refine enter_pu (c2) ?_ ?_ ?_); (· rfl); (· rfl); try simp -implicitDefEqProofs only [go_sem, *])))
    all_goals exact fin_pu rfl rfl
theorem empty_eq {p : Pg} (h : p.rg) (hl : 0 ≤ p.lsn ∧ p.lsn ≤ 150) : (p.ok && allZero p.vals) = emptyB p := by
  unfold Pg.ok allZero emptyB isIn Pg.good
  have h1 := h.own
  have h2 := h.len
  rw [Bool.eq_iff_iff]
  simp only [Bool.and_eq_true, Bool.or_eq_true, Bool.not_eq_true', decide_eq_true_eq, allFrom_iff, ← Bool.not_eq_true, anyFrom_iff, bne_iff_ne, beq_iff_eq, isIn]
  constructor
  · rintro ⟨-, h3⟩ k hk hk2
    exact Classical.byContradiction fun hc => h3 ⟨k, hk, hk2, hc⟩
  · intro h3
    refine ⟨⟨⟨⟨hl, h1⟩, h2⟩, fun k hk hk2 => ?_⟩, ?_⟩
    · have h4 := h3 k hk hk2
      exact ⟨by omega, .inr h4⟩
    · rintro ⟨k, hk, hk2, hn⟩
      exact hn (h3 k hk hk2)
theorem IndexFunc_at (S : Store) (l : List Int) (g : FuncId) (caps : List AV) (pred : Int → Bool) (hb : l.length < 4611686018427387904) (hg : ∀ k : Nat, k < l.length → AFn1 Tryz.prog g (I (at' l (k : Int)) :: caps) S (Bo (pred (at' l (k : Int)))) S []) :
    AFn1 Tryz.prog 102 [ints l, .clo g caps] S (I (firstIdx (fun k => pred (at' l k)) 0 l.length)) S [] := by
  refine afn1_of Tryz.func102 rfl rfl ?_
  simp -implicitDefEqProofs only [go_sem, Tryz.f102]
  refine cp_loop (fun i : Nat => ⟨(ints l :: .clo g caps :: .any :: .any :: I 0 :: .any :: .any :: I (l.length : Int) :: I (i : Int) :: .any :: .any :: .any :: .any :: .any :: .any :: .any :: .any :: .any :: .any :: []), S, []⟩) (fun i => i ≤ l.length ∧ firstIdx (fun k => pred (at' l k)) i l.length = firstIdx (fun k => pred (at' l k)) 0 l.length) (fun i => l.length - i) 0 ?_ ?_ ?_
  · simp
  · refine wk_tm ?_; repeat (first | exact WL.nil | (with_reducible refine WL.any _ _ _ ?_) | (with_reducible refine WL.same _ _ _ ?_) | (refine WL.eq _ _ _ _ rfl ?_))
  · rintro i ⟨hi, hgi⟩
    have hb : i < 4611686018427387904 := by omega
    by_cases hil : i < l.length
    · have hil' : (i : Int) < (l.length : Int) := by omega
      have hg' := hg i hil
      rw [firstIdx_lt hil] at hgi
      rcases hp : pred (at' l (i : Int)) with _ | _
      · rw [hp] at hg' hgi
        simp -implicitDefEqProofs only [go_sem, hil', hil]
        refine enter_at0 hg' ?_
        simp -implicitDefEqProofs only [go_sem, hb]
        exact ⟨i + 1, ⟨by omega, by simpa using hgi⟩, by omega, by refine wk_tm ?_; repeat (first | exact WL.nil | (with_reducible refine WL.any _ _ _ ?_) | (with_reducible refine WL.same _ _ _ ?_) | (refine WL.eq _ _ _ _ rfl ?_))⟩
      · rw [hp] at hg' hgi
        simp -implicitDefEqProofs only [go_sem, hil', hil]
        refine enter_at0 hg' ?_
        simp -implicitDefEqProofs only [go_sem, hb]
        refine fin_same ⟨?_, rfl, rfl⟩
        rw [← hgi]
        rfl
    · have hil' : ¬ (i : Int) < (l.length : Int) := by omega
      rw [firstIdx_ge hil] at hgi
      simp -implicitDefEqProofs only [go_sem, hil', hil]
      refine fin_same ⟨?_, rfl, rfl⟩
      rw [← hgi]
theorem ContainsFunc_at (S : Store) (l : List Int) (g : FuncId) (caps : List AV) (pred : Int → Bool) (hb : l.length < 4611686018427387904) (hg : ∀ k : Nat, k < l.length → AFn1 Tryz.prog g (I (at' l (k : Int)) :: caps) S (Bo (pred (at' l (k : Int)))) S []) :
    AFn1 Tryz.prog 44 [ints l, .clo g caps] S (Bo (anyFrom (fun k => pred (at' l k)) 0 l.length)) S [] := by
  have c1 := IndexFunc_at S l g caps pred hb hg
  refine afn1_of Tryz.func44 rfl rfl ?_
  simp -implicitDefEqProofs only [go_sem, Tryz.f44]
  refine enter_at0 c1 ?_
  simp -implicitDefEqProofs only [go_sem, true_and]
  refine fin_same ⟨?_, rfl, rfl⟩
  rw [← firstIdx_any]
end
section
theorem ty_pe : tiOf Tryz.prog 67 = some ⟨false, [.pointer none], 8, .other⟩ := by kernel_rfl
theorem ro_cells {xs : List D} : (AV.ro xs).cells = [AV.ro xs] := rfl
attribute [local go_sem] slt_r slt_I slt_p ty_pe ro_cells
def tkB (l : List Rc) (page n : Int) : Bool := (at' l (n - 1)).kind == 2 && (at' l (n - 1)).page == page && (at' l (n - 1)).new != 0
theorem fin_two {p : Pg} {xs : List D} {b b' : Bool} {T : Store} (h : b = b') : Fin 2 (.prim (.bool b)) (some ⟨1, [.ro xs]⟩ :: some ⟨3, [pA p]⟩ :: T) [] (fun r' S' mv => r' = Bo b' ∧ S' = [some ⟨1, [.ro xs]⟩, some ⟨3, [pA p]⟩] ∧ mv = []) :=
  fin_move [0, 1] [] (by simp) rfl (by decide) (keep2 rfl rfl (.cons _ _ _ _ (.of _ _ (.same _ rfl)) .nil) (.cons _ _ _ _ (.agg _ _ (a2_same rfl)) .nil)) (hm2 rfl) (.of _ _ (.of _ _ (.same _ rfl))) ⟨by rw [h], rfl, rfl⟩
theorem took_at (e : Eng) (p : Pg) (page n : Int) (hn : 1 ≤ n ∧ n ≤ e.log.length) (hl : e.log.length ≤ 1000) :
    AFn1 Tryz.prog 41 [I n, .ref 0 1 0 0, .ro [iD page]] [some ⟨1, [.ro (cells e)]⟩, some ⟨3, [pA p]⟩] (Bo (tkB e.log page n)) [some ⟨1, [.ro (cells e)]⟩, some ⟨3, [pA p]⟩] [] := by
  have hk : n - 1 < (e.log.length : Int) := by omega
  have hk0 : 0 ≤ n - 1 := by omega
  have hw : IntKind.i64.wrap (n - 1) = n - 1 := wrap_ok (by omega) (by omega)
  refine afn1_of Tryz.func41 rfl rfl ?_
  unfold cells
  simp -implicitDefEqProofs only [go_sem, Tryz.f41, hw, hk, hk0]
  (repeat' (first | ((with_reducible first | refine gon ?_ ?_ | refine gos ?_ ?_ | refine cdn ?_ ?_ | refine cds ?_ ?_ | refine gpn ?_ ?_ | refine gps ?_ ?_) <;> intro h <;> (try simp only [dt, df, gi, gt] at h) <;> try simp -implicitDefEqProofs only [go_sem, *]) | ((with_reducible refine And.intro ?_ ?_); (· first | omega | (simp only [List.length_take]; omega)); try simp -implicitDefEqProofs only [go_sem, *]) | fail))
  all_goals exact fin_two (by unfold tkB; simp [*])
end
section
attribute [local go_sem] slt_r slt_I slt_p ty_pe ro_cells cells yieldR_idx'
section
variable {P : Program}
def stepG (P : Program) (g : Option Bool) (op : Op) (d : Tmp) (tm : List AV) (S : Store) (mv : List Nat) (K : St → Prop) : Prop := match g with
  | none => False
  | some true => afterR P (opR (tiOf P) tm S op) (some d) ⟨tm, S, mv⟩ K
  | some false => K ⟨tm.set d (.tup []), S, mv⟩
theorem stepE_g {ops : Array Oper} {d : Tmp} {op : Op} {ty : TypeId} {ps : String} {af : Array Edge} {j : Nat} {wn : Bool} {tm : List AV} {S : Store} {mv : List Nat} {K : St → Prop} :
    stepE P ops (some ⟨some d, op, ty, ps, af, some (j, wn)⟩) ⟨tm, S, mv⟩ K = stepG P (gdJ ops[j]? tm wn) op d tm S mv K := by
  simp only [stepE, stepG, stepP]
  rfl
theorem stepG_t {op : Op} {d : Tmp} {tm : List AV} {S : Store} {mv : List Nat} {K : St → Prop} : stepG P (some true) op d tm S mv K = afterR P (opR (tiOf P) tm S op) (some d) ⟨tm, S, mv⟩ K := rfl
theorem stepG_f {op : Op} {d : Tmp} {tm : List AV} {S : Store} {mv : List Nat} {K : St → Prop} : stepG P (some false) op d tm S mv K = K ⟨tm.set d (.tup []), S, mv⟩ := rfl
theorem gd_J {ops : Array Oper} {d : Option Tmp} {op : Op} {ty : TypeId} {ps : String} {af : Array Edge} {j : Nat} {wn : Bool} {tm : List AV} : gd ops tm ⟨d, op, ty, ps, af, some (j, wn)⟩ = gdJ ops[j]? tm wn := rfl
variable {ops : Array Oper} {Inv : Store → Prop}
theorem expG_getT {K : St → Prop} {f : Nat} {listed : Array Bool} {tm : List AV} {S : Store} {mv : List Nat} {op : Op} {ty : TypeId} {ps : String} {af : Array Edge} {j : Nat} {wn : Bool} {d : Tmp} (i : Nat) (v : AV) (hi : ops[i]? = some ⟨some d, op, ty, ps, af, some (j, wn)⟩) (hg : gdJ ops[j]? tm wn = some true) (hf : Region.free .any ops listed i = true)
    (hr : (Region.ready .any ops listed).contains i = true) (hS : Inv S) (hy : ∀ S, Inv S → yieldR (opR (tiOf P) tm S op) v) (h : expG P ops Inv f (listed.setIfInBounds i true) ⟨tm.set d v, S, mv⟩ K) : expG P ops Inv (f + 1) listed ⟨tm, S, mv⟩ K := by
  refine expG_take i _ v d hi rfl hf hr hS (.inl ⟨by rw [gd_J]; exact hg, fun S hS => ?_⟩) h
  have := hy S hS
  unfold yieldR at this
  split at this
  · rename_i φ u hr
    exact ⟨φ, by rw [hr, this.2], this.1⟩
  · exact this.elim
theorem expG_skip {K : St → Prop} {f : Nat} {listed : Array Bool} {tm : List AV} {S : Store} {mv : List Nat} {op : Op} {ty : TypeId} {ps : String} {af : Array Edge} {j : Nat} {wn : Bool} {d : Tmp} (i : Nat) (hi : ops[i]? = some ⟨some d, op, ty, ps, af, some (j, wn)⟩) (hg : gdJ ops[j]? tm wn = some false) (hf : Region.free .any ops listed i = true)
    (hr : (Region.ready .any ops listed).contains i = true) (hS : Inv S) (h : expG P ops Inv f (listed.setIfInBounds i true) ⟨tm.set d (.tup []), S, mv⟩ K) : expG P ops Inv (f + 1) listed ⟨tm, S, mv⟩ K :=
  expG_take i _ _ d hi rfl hf hr hS (.inr ⟨by rw [gd_J]; exact hg, rfl⟩) h
end
attribute [local go_sem] stepE_g stepG_t stepG_f
def ldH (e : Eng) (tx page : Int) (vals : List Int) : Bool := (at' e.mem page).owner != 0 && emptyB (at' e.mem page) && valsOk vals && anyFrom (fun j => tkB e.log page (at' ((chain e.log (lastN e.log tx)).map fun n : Nat => (n : Int)) j)) 0 (chain e.log (lastN e.log tx)).length
theorem loadH_fn (e : Eng) (tx : Int) (k : Nat) (vals : List Int) (hk : k < 5) (hi : Inv e) (hv : vals.length < 4611686018427387904) :
    Fn1 Tryz.prog 40 [.ro (cells e), .ro [iD (k : Int)], .ro [.sl 1 (vals.map iD)], .ro [iD tx]] (Bo (ldH e tx k vals)) := by
  have hlen := hi.len
  have hm5 := hi.mem.len
  have hrg := hi.mem.rg k hk
  have hml := hi.ml k hk
  have c1 := PageEmptyI_fn (at' e.mem (k : Int)) (by have := hrg.len; omega)
  rw [empty_eq hrg (by omega)] at c1
  have c2 := valsOk_fn vals hv
  have c3 := chain_fn lastC e.log tx hi.wf
  have hcl := chain_len e.log (lastN e.log tx)
  have hll := lastN_le e.log tx
  have hk5 : (k : Int) < 5 := by omega
  have hke : (k : Int) < (e.mem.length : Int) := by omega
  have hch : ∀ x ∈ (chain e.log (lastN e.log tx)).map (fun n : Nat => (n : Int)), 1 ≤ x ∧ x ≤ (e.log.length : Int) := fun x hx => by
    obtain ⟨n, hn, rfl⟩ := List.mem_map.1 hx
    obtain ⟨b, rfl, hb⟩ := chain_memP hi.wf _ hll hn
    omega
  have c4 := ContainsFunc_at [some ⟨1, [.ro (cells e)]⟩, some ⟨3, [pA (at' e.mem (k : Int))]⟩] ((chain e.log (lastN e.log tx)).map fun n : Nat => (n : Int)) 41 [.ref 0 1 0 0, .ro [iD (k : Int)]] (tkB e.log (k : Int)) (by rw [List.length_map]; omega)
    (fun j hj => took_at e _ (k : Int) _ (hch _ (at_mem _ j hj)) (by omega))
  rw [List.length_map] at c4
  have hkm : k < e.mem.length := by omega
  have fin : ∀ {b : Bool} {S : Store}, b = ldH e tx k vals → Fin 0 (.prim (.bool b)) S [] (fun r S' mv => (r = Bo (ldH e tx k vals) ∧ S' = []) ∧ mv = []) := fun h => fin_pu (by rw [h]) rfl
  unfold ldH at fin ⊢
  generalize anyFrom (fun j => tkB e.log (k : Int) (at' ((chain e.log (lastN e.log tx)).map fun n : Nat => (n : Int)) j)) 0 (chain e.log (lastN e.log tx)).length = b4 at c4 fin ⊢
  refine fn1_of Tryz.func40 rfl rfl ?_
  simp -implicitDefEqProofs only [go_sem, Tryz.f40]
  refine ⟨rfl, ?_⟩
  refine cp_drawG (id := 1) 9 (fun S => getO S 0 = some ⟨1, [.ro (cells e)]⟩) mixed rfl ?_
  ((refine expG_get 0 (.ro (cells e)) rfl ?_ ?_ (by repeat (first | rfl | refine And.intro rfl ?_)) ?_ ?_); (· decide +kernel); (· decide +kernel); (· (intro S hS0; simp -implicitDefEqProofs only [go_sem, hS0, *])); try simp -implicitDefEqProofs only [go_sem, List.set_cons_succ, List.set_cons_zero])
  ((refine expG_get 1 (.ro (cells e)) rfl ?_ ?_ (by repeat (first | rfl | refine And.intro rfl ?_)) ?_ ?_); (· decide +kernel); (· decide +kernel); (· (intro S hS0; simp -implicitDefEqProofs only [go_sem, hS0, *])); try simp -implicitDefEqProofs only [go_sem, List.set_cons_succ, List.set_cons_zero])
  ((refine expG_get 2 (.ro ((cells e).drop 1)) rfl ?_ ?_ (by repeat (first | rfl | refine And.intro rfl ?_)) ?_ ?_); (· decide +kernel); (· decide +kernel); (· (intro S hS0; simp -implicitDefEqProofs only [go_sem, hS0, *])); try simp -implicitDefEqProofs only [go_sem, List.set_cons_succ, List.set_cons_zero])
  ((refine expG_get 3 (pgs e.mem) rfl ?_ ?_ (by repeat (first | rfl | refine And.intro rfl ?_)) ?_ ?_); (· decide +kernel); (· decide +kernel); (· (intro S hS0; simp -implicitDefEqProofs only [go_sem, hS0, *])); try simp -implicitDefEqProofs only [go_sem, List.set_cons_succ, List.set_cons_zero])
  ((refine expG_get 4 (I (k : Int)) rfl ?_ ?_ (by repeat (first | rfl | refine And.intro rfl ?_)) ?_ ?_); (· decide +kernel); (· decide +kernel); (· (intro S hS0; simp -implicitDefEqProofs only [go_sem, hS0, *])); try simp -implicitDefEqProofs only [go_sem, List.set_cons_succ, List.set_cons_zero])
  ((refine expG_get 5 (.ro [iD (at' e.mem (k : Int)).lsn, iD (at' e.mem (k : Int)).owner, .sl 1 ((at' e.mem (k : Int)).vals.map iD)]) rfl ?_ ?_ (by repeat (first | rfl | refine And.intro rfl ?_)) ?_ ?_); (· decide +kernel); (· decide +kernel); (· (intro S hS0; simp -implicitDefEqProofs only [go_sem, hS0, *])); try simp -implicitDefEqProofs only [go_sem, List.set_cons_succ, List.set_cons_zero])
  ((refine expG_get 6 (pA (at' e.mem (k : Int))) rfl ?_ ?_ (by repeat (first | rfl | refine And.intro rfl ?_)) ?_ ?_); (· decide +kernel); (· decide +kernel); (· (intro S hS0; simp -implicitDefEqProofs only [go_sem, hS0, *])); try simp -implicitDefEqProofs only [go_sem, List.set_cons_succ, List.set_cons_zero])
  (repeat' (first | ((with_reducible first | refine gon ?_ ?_ | refine gos ?_ ?_ | refine cdn ?_ ?_ | refine cds ?_ ?_ | refine gpn ?_ ?_ | refine gps ?_ ?_) <;> intro h <;> (try simp only [dt, df, gi, gt] at h) <;> try simp -implicitDefEqProofs only [go_sem, *]) | ((with_reducible refine And.intro ?_ ?_); (· first | omega | (simp only [List.length_take]; omega)); try simp -implicitDefEqProofs only [go_sem, *]) | first | ((with_reducible refine expG_one 7 ?_ ?_); (· decide +kernel); try simp -implicitDefEqProofs only [go_sem, *]) | ((with_reducible refine expG_one 8 ?_ ?_); (· decide +kernel); try simp -implicitDefEqProofs only [go_sem, *]) | ((with_reducible refine expG_end ?_ ?_); (· decide +kernel); try simp -implicitDefEqProofs only [go_sem, *])))
  refine cp_drawG (id := 3) 22 (fun S => getO S 0 = some ⟨1, [.ro (cells e)]⟩ ∧ getO S 1 = some ⟨3, [pA (at' e.mem (k : Int))]⟩) mixed rfl ?_
  rcases h1 : (at' e.mem (k : Int)).owner != 0 with _ | _
  · (repeat' (first | ((with_reducible first | refine gon ?_ ?_ | refine gos ?_ ?_ | refine cdn ?_ ?_ | refine cds ?_ ?_ | refine gpn ?_ ?_ | refine gps ?_ ?_) <;> intro h <;> (try simp only [dt, df, gi, gt] at h) <;> try simp -implicitDefEqProofs only [go_sem, *]) | ((with_reducible refine And.intro ?_ ?_); (· first | omega | (simp only [List.length_take]; omega)); try simp -implicitDefEqProofs only [go_sem, *]) | first | ((with_reducible refine expG_one 0 ?_ ?_); (· decide +kernel); try simp -implicitDefEqProofs only [go_sem, *]) | ((with_reducible refine expG_one 1 ?_ ?_); (· decide +kernel); try simp -implicitDefEqProofs only [go_sem, *]) | ((with_reducible refine expG_one 2 ?_ ?_); (· decide +kernel); try simp -implicitDefEqProofs only [go_sem, *]) | ((with_reducible refine expG_one 3 ?_ ?_); (· decide +kernel); try simp -implicitDefEqProofs only [go_sem, *]) | fail))
    ((refine expG_skip 4 rfl rfl ?_ ?_ (by repeat (first | rfl | refine And.intro rfl ?_)) ?_); (· decide +kernel); (· decide +kernel); try simp -implicitDefEqProofs only [go_sem, List.set_cons_succ, List.set_cons_zero])
    (repeat' (first | ((with_reducible first | refine gon ?_ ?_ | refine gos ?_ ?_ | refine cdn ?_ ?_ | refine cds ?_ ?_ | refine gpn ?_ ?_ | refine gps ?_ ?_) <;> intro h <;> (try simp only [dt, df, gi, gt] at h) <;> try simp -implicitDefEqProofs only [go_sem, *]) | ((with_reducible refine And.intro ?_ ?_); (· first | omega | (simp only [List.length_take]; omega)); try simp -implicitDefEqProofs only [go_sem, *]) | first | ((with_reducible refine expG_one 5 ?_ ?_); (· decide +kernel); try simp -implicitDefEqProofs only [go_sem, *]) | ((with_reducible refine expG_one 6 ?_ ?_); (· decide +kernel); try simp -implicitDefEqProofs only [go_sem, *]) | ((with_reducible refine expG_one 7 ?_ ?_); (· decide +kernel); try simp -implicitDefEqProofs only [go_sem, *]) | ((with_reducible refine expG_one 8 ?_ ?_); (· decide +kernel); try simp -implicitDefEqProofs only [go_sem, *]) | ((with_reducible refine expG_one 9 ?_ ?_); (· decide +kernel); try simp -implicitDefEqProofs only [go_sem, *]) | ((with_reducible refine expG_one 10 ?_ ?_); (· decide +kernel); try simp -implicitDefEqProofs only [go_sem, *]) | ((with_reducible refine expG_one 11 ?_ ?_); (· decide +kernel); try simp -implicitDefEqProofs only [go_sem, *]) | fail))
    ((refine expG_skip 12 rfl rfl ?_ ?_ (by repeat (first | rfl | refine And.intro rfl ?_)) ?_); (· decide +kernel); (· decide +kernel); try simp -implicitDefEqProofs only [go_sem, List.set_cons_succ, List.set_cons_zero])
    ((refine expG_skip 13 rfl rfl ?_ ?_ (by repeat (first | rfl | refine And.intro rfl ?_)) ?_); (· decide +kernel); (· decide +kernel); try simp -implicitDefEqProofs only [go_sem, List.set_cons_succ, List.set_cons_zero])
    ((refine expG_skip 14 rfl rfl ?_ ?_ (by repeat (first | rfl | refine And.intro rfl ?_)) ?_); (· decide +kernel); (· decide +kernel); try simp -implicitDefEqProofs only [go_sem, List.set_cons_succ, List.set_cons_zero])
    ((refine expG_skip 15 rfl rfl ?_ ?_ (by repeat (first | rfl | refine And.intro rfl ?_)) ?_); (· decide +kernel); (· decide +kernel); try simp -implicitDefEqProofs only [go_sem, List.set_cons_succ, List.set_cons_zero])
    ((refine expG_skip 16 rfl rfl ?_ ?_ (by repeat (first | rfl | refine And.intro rfl ?_)) ?_); (· decide +kernel); (· decide +kernel); try simp -implicitDefEqProofs only [go_sem, List.set_cons_succ, List.set_cons_zero])
    ((refine expG_skip 18 rfl rfl ?_ ?_ (by repeat (first | rfl | refine And.intro rfl ?_)) ?_); (· decide +kernel); (· decide +kernel); try simp -implicitDefEqProofs only [go_sem, List.set_cons_succ, List.set_cons_zero])
    (repeat' (first | ((with_reducible first | refine gon ?_ ?_ | refine gos ?_ ?_ | refine cdn ?_ ?_ | refine cds ?_ ?_ | refine gpn ?_ ?_ | refine gps ?_ ?_) <;> intro h <;> (try simp only [dt, df, gi, gt] at h) <;> try simp -implicitDefEqProofs only [go_sem, *]) | ((with_reducible refine And.intro ?_ ?_); (· first | omega | (simp only [List.length_take]; omega)); try simp -implicitDefEqProofs only [go_sem, *]) | first | ((with_reducible refine expG_one 17 ?_ ?_); (· decide +kernel); try simp -implicitDefEqProofs only [go_sem, *]) | ((with_reducible refine expG_one 19 ?_ ?_); (· decide +kernel); try simp -implicitDefEqProofs only [go_sem, *]) | ((with_reducible refine expG_one 20 ?_ ?_); (· decide +kernel); try simp -implicitDefEqProofs only [go_sem, *]) | ((with_reducible refine expG_one 21 ?_ ?_); (· decide +kernel); try simp -implicitDefEqProofs only [go_sem, *]) | ((with_reducible refine expG_end ?_ ?_); (· decide +kernel); try simp -implicitDefEqProofs only [go_sem, *])))
    all_goals exact fin_pu rfl rfl
  rcases h2 : emptyB (at' e.mem (k : Int)) with _ | _
  · rw [h2] at c1
    (repeat' (first | ((with_reducible first | refine gon ?_ ?_ | refine gos ?_ ?_ | refine cdn ?_ ?_ | refine cds ?_ ?_ | refine gpn ?_ ?_ | refine gps ?_ ?_) <;> intro h <;> (try simp only [dt, df, gi, gt] at h) <;> try simp -implicitDefEqProofs only [go_sem, *]) | ((with_reducible refine And.intro ?_ ?_); (· first | omega | (simp only [List.length_take]; omega)); try simp -implicitDefEqProofs only [go_sem, *]) | first | ((with_reducible refine enter_pu (c1) ?_ ?_ ?_); (· rfl); (· rfl); try simp -implicitDefEqProofs only [go_sem, *]) | ((with_reducible refine expG_one 0 ?_ ?_); (· decide +kernel); try simp -implicitDefEqProofs only [go_sem, *]) | ((with_reducible refine expG_one 1 ?_ ?_); (· decide +kernel); try simp -implicitDefEqProofs only [go_sem, *]) | ((with_reducible refine expG_one 2 ?_ ?_); (· decide +kernel); try simp -implicitDefEqProofs only [go_sem, *]) | ((with_reducible refine expG_one 3 ?_ ?_); (· decide +kernel); try simp -implicitDefEqProofs only [go_sem, *]) | ((with_reducible refine expG_one 4 ?_ ?_); (· decide +kernel); try simp -implicitDefEqProofs only [go_sem, *]) | ((with_reducible refine expG_one 5 ?_ ?_); (· decide +kernel); try simp -implicitDefEqProofs only [go_sem, *]) | ((with_reducible refine expG_one 6 ?_ ?_); (· decide +kernel); try simp -implicitDefEqProofs only [go_sem, *]) | ((with_reducible refine expG_one 7 ?_ ?_); (· decide +kernel); try simp -implicitDefEqProofs only [go_sem, *]) | ((with_reducible refine expG_one 8 ?_ ?_); (· decide +kernel); try simp -implicitDefEqProofs only [go_sem, *]) | ((with_reducible refine expG_one 9 ?_ ?_); (· decide +kernel); try simp -implicitDefEqProofs only [go_sem, *]) | ((with_reducible refine expG_one 10 ?_ ?_); (· decide +kernel); try simp -implicitDefEqProofs only [go_sem, *]) | ((with_reducible refine expG_one 11 ?_ ?_); (· decide +kernel); try simp -implicitDefEqProofs only [go_sem, *]) | fail))
    ((refine expG_skip 12 rfl rfl ?_ ?_ (by repeat (first | rfl | refine And.intro rfl ?_)) ?_); (· decide +kernel); (· decide +kernel); try simp -implicitDefEqProofs only [go_sem, List.set_cons_succ, List.set_cons_zero])
    ((refine expG_skip 13 rfl rfl ?_ ?_ (by repeat (first | rfl | refine And.intro rfl ?_)) ?_); (· decide +kernel); (· decide +kernel); try simp -implicitDefEqProofs only [go_sem, List.set_cons_succ, List.set_cons_zero])
    ((refine expG_skip 14 rfl rfl ?_ ?_ (by repeat (first | rfl | refine And.intro rfl ?_)) ?_); (· decide +kernel); (· decide +kernel); try simp -implicitDefEqProofs only [go_sem, List.set_cons_succ, List.set_cons_zero])
    ((refine expG_skip 15 rfl rfl ?_ ?_ (by repeat (first | rfl | refine And.intro rfl ?_)) ?_); (· decide +kernel); (· decide +kernel); try simp -implicitDefEqProofs only [go_sem, List.set_cons_succ, List.set_cons_zero])
    ((refine expG_skip 16 rfl rfl ?_ ?_ (by repeat (first | rfl | refine And.intro rfl ?_)) ?_); (· decide +kernel); (· decide +kernel); try simp -implicitDefEqProofs only [go_sem, List.set_cons_succ, List.set_cons_zero])
    ((refine expG_skip 18 rfl rfl ?_ ?_ (by repeat (first | rfl | refine And.intro rfl ?_)) ?_); (· decide +kernel); (· decide +kernel); try simp -implicitDefEqProofs only [go_sem, List.set_cons_succ, List.set_cons_zero])
    (repeat' (first | ((with_reducible first | refine gon ?_ ?_ | refine gos ?_ ?_ | refine cdn ?_ ?_ | refine cds ?_ ?_ | refine gpn ?_ ?_ | refine gps ?_ ?_) <;> intro h <;> (try simp only [dt, df, gi, gt] at h) <;> try simp -implicitDefEqProofs only [go_sem, *]) | ((with_reducible refine And.intro ?_ ?_); (· first | omega | (simp only [List.length_take]; omega)); try simp -implicitDefEqProofs only [go_sem, *]) | first | ((with_reducible refine expG_one 17 ?_ ?_); (· decide +kernel); try simp -implicitDefEqProofs only [go_sem, *]) | ((with_reducible refine expG_one 19 ?_ ?_); (· decide +kernel); try simp -implicitDefEqProofs only [go_sem, *]) | ((with_reducible refine expG_one 20 ?_ ?_); (· decide +kernel); try simp -implicitDefEqProofs only [go_sem, *]) | ((with_reducible refine expG_one 21 ?_ ?_); (· decide +kernel); try simp -implicitDefEqProofs only [go_sem, *]) | ((with_reducible refine expG_end ?_ ?_); (· decide +kernel); try simp -implicitDefEqProofs only [go_sem, *])))
    all_goals exact fin_pu rfl rfl
  rcases h3 : valsOk vals with _ | _
  · rw [h2] at c1
    rw [h3] at c2
    (repeat' (first | ((with_reducible first | refine gon ?_ ?_ | refine gos ?_ ?_ | refine cdn ?_ ?_ | refine cds ?_ ?_ | refine gpn ?_ ?_ | refine gps ?_ ?_) <;> intro h <;> (try simp only [dt, df, gi, gt] at h) <;> try simp -implicitDefEqProofs only [go_sem, *]) | ((with_reducible refine And.intro ?_ ?_); (· first | omega | (simp only [List.length_take]; omega)); try simp -implicitDefEqProofs only [go_sem, *]) | first | ((with_reducible refine enter_pu (c1) ?_ ?_ ?_); (· rfl); (· rfl); try simp -implicitDefEqProofs only [go_sem, *]) | ((with_reducible refine enter_pu (c2) ?_ ?_ ?_); (· rfl); (· rfl); try simp -implicitDefEqProofs only [go_sem, *]) | ((with_reducible refine expG_one 0 ?_ ?_); (· decide +kernel); try simp -implicitDefEqProofs only [go_sem, *]) | ((with_reducible refine expG_one 1 ?_ ?_); (· decide +kernel); try simp -implicitDefEqProofs only [go_sem, *]) | ((with_reducible refine expG_one 2 ?_ ?_); (· decide +kernel); try simp -implicitDefEqProofs only [go_sem, *]) | ((with_reducible refine expG_one 3 ?_ ?_); (· decide +kernel); try simp -implicitDefEqProofs only [go_sem, *]) | ((with_reducible refine expG_one 4 ?_ ?_); (· decide +kernel); try simp -implicitDefEqProofs only [go_sem, *]) | ((with_reducible refine expG_one 5 ?_ ?_); (· decide +kernel); try simp -implicitDefEqProofs only [go_sem, *]) | ((with_reducible refine expG_one 6 ?_ ?_); (· decide +kernel); try simp -implicitDefEqProofs only [go_sem, *]) | ((with_reducible refine expG_one 7 ?_ ?_); (· decide +kernel); try simp -implicitDefEqProofs only [go_sem, *]) | ((with_reducible refine expG_one 8 ?_ ?_); (· decide +kernel); try simp -implicitDefEqProofs only [go_sem, *]) | ((with_reducible refine expG_one 9 ?_ ?_); (· decide +kernel); try simp -implicitDefEqProofs only [go_sem, *]) | ((with_reducible refine expG_one 10 ?_ ?_); (· decide +kernel); try simp -implicitDefEqProofs only [go_sem, *]) | ((with_reducible refine expG_one 11 ?_ ?_); (· decide +kernel); try simp -implicitDefEqProofs only [go_sem, *]) | fail))
    ((refine expG_skip 12 rfl rfl ?_ ?_ (by repeat (first | rfl | refine And.intro rfl ?_)) ?_); (· decide +kernel); (· decide +kernel); try simp -implicitDefEqProofs only [go_sem, List.set_cons_succ, List.set_cons_zero])
    ((refine expG_skip 13 rfl rfl ?_ ?_ (by repeat (first | rfl | refine And.intro rfl ?_)) ?_); (· decide +kernel); (· decide +kernel); try simp -implicitDefEqProofs only [go_sem, List.set_cons_succ, List.set_cons_zero])
    ((refine expG_skip 14 rfl rfl ?_ ?_ (by repeat (first | rfl | refine And.intro rfl ?_)) ?_); (· decide +kernel); (· decide +kernel); try simp -implicitDefEqProofs only [go_sem, List.set_cons_succ, List.set_cons_zero])
    ((refine expG_skip 15 rfl rfl ?_ ?_ (by repeat (first | rfl | refine And.intro rfl ?_)) ?_); (· decide +kernel); (· decide +kernel); try simp -implicitDefEqProofs only [go_sem, List.set_cons_succ, List.set_cons_zero])
    ((refine expG_skip 16 rfl rfl ?_ ?_ (by repeat (first | rfl | refine And.intro rfl ?_)) ?_); (· decide +kernel); (· decide +kernel); try simp -implicitDefEqProofs only [go_sem, List.set_cons_succ, List.set_cons_zero])
    ((refine expG_skip 18 rfl rfl ?_ ?_ (by repeat (first | rfl | refine And.intro rfl ?_)) ?_); (· decide +kernel); (· decide +kernel); try simp -implicitDefEqProofs only [go_sem, List.set_cons_succ, List.set_cons_zero])
    (repeat' (first | ((with_reducible first | refine gon ?_ ?_ | refine gos ?_ ?_ | refine cdn ?_ ?_ | refine cds ?_ ?_ | refine gpn ?_ ?_ | refine gps ?_ ?_) <;> intro h <;> (try simp only [dt, df, gi, gt] at h) <;> try simp -implicitDefEqProofs only [go_sem, *]) | ((with_reducible refine And.intro ?_ ?_); (· first | omega | (simp only [List.length_take]; omega)); try simp -implicitDefEqProofs only [go_sem, *]) | first | ((with_reducible refine expG_one 17 ?_ ?_); (· decide +kernel); try simp -implicitDefEqProofs only [go_sem, *]) | ((with_reducible refine expG_one 19 ?_ ?_); (· decide +kernel); try simp -implicitDefEqProofs only [go_sem, *]) | ((with_reducible refine expG_one 20 ?_ ?_); (· decide +kernel); try simp -implicitDefEqProofs only [go_sem, *]) | ((with_reducible refine expG_one 21 ?_ ?_); (· decide +kernel); try simp -implicitDefEqProofs only [go_sem, *]) | ((with_reducible refine expG_end ?_ ?_); (· decide +kernel); try simp -implicitDefEqProofs only [go_sem, *])))
    all_goals exact fin_pu rfl rfl
  · rw [h2] at c1
    rw [h3] at c2
    (repeat' (first | ((with_reducible first | refine gon ?_ ?_ | refine gos ?_ ?_ | refine cdn ?_ ?_ | refine cds ?_ ?_ | refine gpn ?_ ?_ | refine gps ?_ ?_) <;> intro h <;> (try simp only [dt, df, gi, gt] at h) <;> try simp -implicitDefEqProofs only [go_sem, *]) | ((with_reducible refine And.intro ?_ ?_); (· first | omega | (simp only [List.length_take]; omega)); try simp -implicitDefEqProofs only [go_sem, *]) | first | ((with_reducible refine enter_pu (c1) ?_ ?_ ?_); (· rfl); (· rfl); try simp -implicitDefEqProofs only [go_sem, *]) | ((with_reducible refine enter_pu (c2) ?_ ?_ ?_); (· rfl); (· rfl); try simp -implicitDefEqProofs only [go_sem, *]) | ((with_reducible refine expG_one 0 ?_ ?_); (· decide +kernel); try simp -implicitDefEqProofs only [go_sem, *]) | ((with_reducible refine expG_one 1 ?_ ?_); (· decide +kernel); try simp -implicitDefEqProofs only [go_sem, *]) | ((with_reducible refine expG_one 2 ?_ ?_); (· decide +kernel); try simp -implicitDefEqProofs only [go_sem, *]) | ((with_reducible refine expG_one 3 ?_ ?_); (· decide +kernel); try simp -implicitDefEqProofs only [go_sem, *]) | ((with_reducible refine expG_one 4 ?_ ?_); (· decide +kernel); try simp -implicitDefEqProofs only [go_sem, *]) | ((with_reducible refine expG_one 5 ?_ ?_); (· decide +kernel); try simp -implicitDefEqProofs only [go_sem, *]) | ((with_reducible refine expG_one 6 ?_ ?_); (· decide +kernel); try simp -implicitDefEqProofs only [go_sem, *]) | ((with_reducible refine expG_one 7 ?_ ?_); (· decide +kernel); try simp -implicitDefEqProofs only [go_sem, *]) | ((with_reducible refine expG_one 8 ?_ ?_); (· decide +kernel); try simp -implicitDefEqProofs only [go_sem, *]) | ((with_reducible refine expG_one 9 ?_ ?_); (· decide +kernel); try simp -implicitDefEqProofs only [go_sem, *]) | ((with_reducible refine expG_one 10 ?_ ?_); (· decide +kernel); try simp -implicitDefEqProofs only [go_sem, *]) | ((with_reducible refine expG_one 11 ?_ ?_); (· decide +kernel); try simp -implicitDefEqProofs only [go_sem, *]) | fail))
    ((refine expG_getT 12 (.ro (cells e)) rfl rfl ?_ ?_ (by repeat (first | rfl | refine And.intro rfl ?_)) ?_ ?_); (· decide +kernel); (· decide +kernel); (· (intro S hS0; simp -implicitDefEqProofs only [go_sem, hS0, *])); try simp -implicitDefEqProofs only [go_sem, List.set_cons_succ, List.set_cons_zero])
    ((refine expG_getT 13 (.ro (cells e)) rfl rfl ?_ ?_ (by repeat (first | rfl | refine And.intro rfl ?_)) ?_ ?_); (· decide +kernel); (· decide +kernel); (· (intro S hS0; simp -implicitDefEqProofs only [go_sem, hS0, *])); try simp -implicitDefEqProofs only [go_sem, List.set_cons_succ, List.set_cons_zero])
    ((refine expG_getT 14 (.ro ((cells e).drop 2)) rfl rfl ?_ ?_ (by repeat (first | rfl | refine And.intro rfl ?_)) ?_ ?_); (· decide +kernel); (· decide +kernel); (· (intro S hS0; simp -implicitDefEqProofs only [go_sem, hS0, *])); try simp -implicitDefEqProofs only [go_sem, List.set_cons_succ, List.set_cons_zero])
    ((refine expG_getT 15 (recs e.log) rfl rfl ?_ ?_ (by repeat (first | rfl | refine And.intro rfl ?_)) ?_ ?_); (· decide +kernel); (· decide +kernel); (· (intro S hS0; simp -implicitDefEqProofs only [go_sem, hS0, *])); try simp -implicitDefEqProofs only [go_sem, List.set_cons_succ, List.set_cons_zero])
    ((refine expG_getT 16 (I tx) rfl rfl ?_ ?_ (by repeat (first | rfl | refine And.intro rfl ?_)) ?_ ?_); (· decide +kernel); (· decide +kernel); (· (intro S hS0; simp -implicitDefEqProofs only [go_sem, hS0, *])); try simp -implicitDefEqProofs only [go_sem, List.set_cons_succ, List.set_cons_zero])
    ((refine expG_getT 18 (.clo 41 [.ref 0 1 0 0, .ro [iD (k : Int)]]) rfl rfl ?_ ?_ (by repeat (first | rfl | refine And.intro rfl ?_)) ?_ ?_); (· decide +kernel); (· decide +kernel); (· (intro S hS0; simp -implicitDefEqProofs only [go_sem, hS0, *])); try simp -implicitDefEqProofs only [go_sem, List.set_cons_succ, List.set_cons_zero])
    (repeat' (first | ((with_reducible first | refine gon ?_ ?_ | refine gos ?_ ?_ | refine cdn ?_ ?_ | refine cds ?_ ?_ | refine gpn ?_ ?_ | refine gps ?_ ?_) <;> intro h <;> (try simp only [dt, df, gi, gt] at h) <;> try simp -implicitDefEqProofs only [go_sem, *]) | ((with_reducible refine And.intro ?_ ?_); (· first | omega | (simp only [List.length_take]; omega)); try simp -implicitDefEqProofs only [go_sem, *]) | first | ((with_reducible refine enter_pu (c3) ?_ ?_ ?_); (· rfl); (· rfl); try simp -implicitDefEqProofs only [go_sem, *]) | ((with_reducible refine expG_one 17 ?_ ?_); (· decide +kernel); try simp -implicitDefEqProofs only [go_sem, *]) | ((with_reducible refine expG_one 19 ?_ ?_); (· decide +kernel); try simp -implicitDefEqProofs only [go_sem, *]) | ((with_reducible refine expG_one 20 ?_ ?_); (· decide +kernel); try simp -implicitDefEqProofs only [go_sem, *]) | ((with_reducible refine expG_one 21 ?_ ?_); (· decide +kernel); try simp -implicitDefEqProofs only [go_sem, *]) | ((with_reducible refine expG_end ?_ ?_); (· decide +kernel); try simp -implicitDefEqProofs only [go_sem, *]) | (refine enter_at0 c4 ?_; simp -implicitDefEqProofs only [go_sem, *])))
    all_goals exact fin_pu (by simp) rfl
theorem ldH_eq (e : Eng) (tx : Int) (k : Nat) (vals : List Int) (hi : Inv e) : ldH e tx k vals = (decide (vals.length = 3) && decide ((at' e.mem (k : Int)).owner ≠ 0) && emptyB (at' e.mem (k : Int)) && tookB e.log tx (k : Int) && valsB vals) := by
  have hll := lastN_le e.log tx
  have ht : anyFrom (fun j => tkB e.log (k : Int) (at' ((chain e.log (lastN e.log tx)).map fun n : Nat => (n : Int)) j)) 0 (chain e.log (lastN e.log tx)).length = tookB e.log tx (k : Int) := by
    rw [Bool.eq_iff_iff, anyFrom_iff]
    unfold tookB tkB
    rw [List.any_eq_true]
    constructor
    · rintro ⟨j, _, hj, h⟩
      have hm := at_mem ((chain e.log (lastN e.log tx)).map fun n : Nat => (n : Int)) j (by rw [List.length_map]; exact hj)
      obtain ⟨n, hn, he⟩ := List.mem_map.1 hm
      refine ⟨n, hn, ?_⟩
      rw [← he] at h
      obtain ⟨b, rfl, hb⟩ := chain_memP hi.wf _ hll hn
      simp only [Bool.and_eq_true, beq_iff_eq, bne_iff_ne, decide_eq_true_eq] at h ⊢
      obtain ⟨⟨h1, h2⟩, h3⟩ := h
      refine ⟨⟨h1, h2⟩, ?_⟩
      have e1 : ((b + 1 : Nat) : Int) - 1 = (b : Int) := by omega
      rw [e1] at h1 h3 ⊢
      have h4 := (Rc.ok_new (hi.wf.rok b (by omega)) (by unfold chg; rw [h1]; rfl)).1
      omega
    · rintro ⟨n, hn, h⟩
      obtain ⟨j, hj, he⟩ := List.mem_iff_getElem.1 hn
      refine ⟨j, Nat.zero_le _, hj, ?_⟩
      have : at' ((chain e.log (lastN e.log tx)).map fun n : Nat => (n : Int)) (j : Int) = (n : Int) := by simp [at', List.getD, hj, he]
      rw [this]
      simp only [Bool.and_eq_true, beq_iff_eq, bne_iff_ne, decide_eq_true_eq] at h ⊢
      exact ⟨h.1, by omega⟩
  unfold ldH
  rw [ht]
  unfold valsOk valsB
  rw [Bool.eq_iff_iff]
  simp only [Bool.and_eq_true, Bool.not_eq_true', decide_eq_true_eq, allFrom_iff, ← Bool.not_eq_true, anyFrom_iff, bne_iff_ne]
  constructor
  · rintro ⟨⟨⟨h1, h2⟩, h3, h4⟩, h5⟩
    exact ⟨⟨⟨⟨h3, h1⟩, h2⟩, h5⟩, fun j hj hj2 => Classical.byContradiction fun hc => h4 ⟨j, hj, hj2, by simpa using hc⟩⟩
  · rintro ⟨⟨⟨⟨h3, h1⟩, h2⟩, h5⟩, h4⟩
    exact ⟨⟨⟨h1, h2⟩, h3, fun ⟨j, hj, hj2, hc⟩ => by simp [h4 j hj hj2] at hc⟩, h5⟩
end
section
theorem yield_loadX {α : Type} [Inhabited α] {zs : List Value} {n : Nat} {sh : Sh} {z0 : Nat} {f : α → AV} {l : List α} {z k sub : Nat} {v : AV} : yieldR (loadM ⟨true, zs, n, sh⟩ z0 f l z k sub) v = ((z0 = z ∧ k < l.length ∧ sub + zs.length ≤ z) ∧ .agg (((f (at' l (k : Int))).cells.drop sub).take zs.length) = v) := by
  unfold loadM
  rw [loadO_agg]
  unfold yieldR
  simp only [List.length_map]
  refine propext ⟨fun ⟨h, k⟩ => ⟨h, by rw [getM h.2.1] at k; exact k⟩, fun ⟨h, k⟩ => ⟨h, by rw [getM h.2.1]; exact k⟩⟩
theorem yield_loadY {α : Type} [Inhabited α] {zs : List Value} {n : Nat} {sh : Sh} {z0 : Nat} {f : α → AV} {l : List α} {z k sub : Nat} {v : AV} : yieldR (loadM ⟨false, zs, n, sh⟩ z0 f l z k sub) v = ((z0 = z ∧ k < l.length ∧ sub < z) ∧ (f (at' l (k : Int))).cells.getD sub .any = v) := by
  unfold loadM
  rw [loadO_one]
  unfold yieldR
  simp only [List.length_map]
  refine propext ⟨fun ⟨h, k⟩ => ⟨h, by rw [getM h.2.1] at k; exact k⟩, fun ⟨h, k⟩ => ⟨h, by rw [getM h.2.1]; exact k⟩⟩
attribute [local go_sem] slt_r slt_I slt_p yield_loadX yield_loadY sD_len List.append_nil
theorem fin_mem14 {a b : Int} {vals : List Int} {n p : Nat} {e : Eng} {r : AV} {mv : List Nat} {Q : AV → Store → List Nat → Prop} (hp : p < 5) (hd : e.disk.length = 5) (hm : e.mem.length = 5) (hn : n = vals.length) (hr : r = .tup [] ∨ ∃ n, r = I n) (hmv : mv = [] ∨ mv = [12])
    (h : Q r (sD ⟨e.disk, e.mem.set p ⟨a, b, vals⟩, e.log, e.safe, e.down⟩) M13) :
    Fin 14 r (oD 1 e.disk :: vO (at' e.disk 0) :: vO (at' e.disk 1) :: vO (at' e.disk 2) :: vO (at' e.disk 3) :: vO (at' e.disk 4) :: some ⟨3, ((dps 7 e.mem).map dA).set p (.agg [I a, I b, .own 14 1 0 n])⟩ ::
      vO (at' e.mem 0) :: vO (at' e.mem 1) :: vO (at' e.mem 2) :: vO (at' e.mem 3) :: vO (at' e.mem 4) :: oR8 e.log :: some ⟨5, [dW e]⟩ :: some ⟨1, vals.map I⟩ :: []) mv Q := by
  obtain ⟨ed, em, el, es, ew⟩ := e
  simp only at hd hm h ⊢
  obtain ⟨a0, a1, a2, a3, a4, rfl⟩ := list5 hd
  obtain ⟨b0, b1, b2, b3, b4, rfl⟩ := list5 hm
  subst hn
  have hmm : ∀ i, i < 14 → M13.contains i = false → i = 13 := by decide
  rcases p with _ | _ | _ | _ | _ | p
  rotate_right
  · omega
  · refine fin_movK [0, 1, 2, 3, 4, 5, 6, 14, 8, 9, 10, 11, 12, 13] M13 (by decide) (by decide) ?_ (fun i hi hc => by obtain rfl := hmm i hi hc; rcases hmv with rfl | rfl <;> exact ⟨rfl, rfl⟩) (RnT_pu hr) h
    (repeat (first | exact Keeps.nil | (refine Keeps.cons _ _ _ _ _ rfl rfl ?_ ?_; (· first | exact a2_I _ _ | exact a2_r _ _ | exact All2.cons _ _ _ _ (Rn1.agg _ _ (All2.cons _ _ _ _ (Rn0.own _ _ _ _ _ rfl) (All2.cons _ _ _ _ (Rn0.own _ _ _ _ _ rfl) (All2.cons _ _ _ _ (Rn0.own _ _ _ _ _ rfl) (All2.cons _ _ _ _ (Rn0.same _ rfl) (All2.cons _ _ _ _ (Rn0.same _ rfl) All2.nil)))))) All2.nil | (repeat (first | exact All2.nil | refine All2.cons _ _ _ _ (Rn1.agg _ _ (All2.cons _ _ _ _ (Rn0.same _ rfl) (All2.cons _ _ _ _ (Rn0.same _ rfl) (All2.cons _ _ _ _ (Rn0.own _ _ _ _ _ rfl) All2.nil)))) ?_))))))
  · refine fin_movK [0, 1, 2, 3, 4, 5, 6, 7, 14, 9, 10, 11, 12, 13] M13 (by decide) (by decide) ?_ (fun i hi hc => by obtain rfl := hmm i hi hc; rcases hmv with rfl | rfl <;> exact ⟨rfl, rfl⟩) (RnT_pu hr) h
    (repeat (first | exact Keeps.nil | (refine Keeps.cons _ _ _ _ _ rfl rfl ?_ ?_; (· first | exact a2_I _ _ | exact a2_r _ _ | exact All2.cons _ _ _ _ (Rn1.agg _ _ (All2.cons _ _ _ _ (Rn0.own _ _ _ _ _ rfl) (All2.cons _ _ _ _ (Rn0.own _ _ _ _ _ rfl) (All2.cons _ _ _ _ (Rn0.own _ _ _ _ _ rfl) (All2.cons _ _ _ _ (Rn0.same _ rfl) (All2.cons _ _ _ _ (Rn0.same _ rfl) All2.nil)))))) All2.nil | (repeat (first | exact All2.nil | refine All2.cons _ _ _ _ (Rn1.agg _ _ (All2.cons _ _ _ _ (Rn0.same _ rfl) (All2.cons _ _ _ _ (Rn0.same _ rfl) (All2.cons _ _ _ _ (Rn0.own _ _ _ _ _ rfl) All2.nil)))) ?_))))))
  · refine fin_movK [0, 1, 2, 3, 4, 5, 6, 7, 8, 14, 10, 11, 12, 13] M13 (by decide) (by decide) ?_ (fun i hi hc => by obtain rfl := hmm i hi hc; rcases hmv with rfl | rfl <;> exact ⟨rfl, rfl⟩) (RnT_pu hr) h
    (repeat (first | exact Keeps.nil | (refine Keeps.cons _ _ _ _ _ rfl rfl ?_ ?_; (· first | exact a2_I _ _ | exact a2_r _ _ | exact All2.cons _ _ _ _ (Rn1.agg _ _ (All2.cons _ _ _ _ (Rn0.own _ _ _ _ _ rfl) (All2.cons _ _ _ _ (Rn0.own _ _ _ _ _ rfl) (All2.cons _ _ _ _ (Rn0.own _ _ _ _ _ rfl) (All2.cons _ _ _ _ (Rn0.same _ rfl) (All2.cons _ _ _ _ (Rn0.same _ rfl) All2.nil)))))) All2.nil | (repeat (first | exact All2.nil | refine All2.cons _ _ _ _ (Rn1.agg _ _ (All2.cons _ _ _ _ (Rn0.same _ rfl) (All2.cons _ _ _ _ (Rn0.same _ rfl) (All2.cons _ _ _ _ (Rn0.own _ _ _ _ _ rfl) All2.nil)))) ?_))))))
  · refine fin_movK [0, 1, 2, 3, 4, 5, 6, 7, 8, 9, 14, 11, 12, 13] M13 (by decide) (by decide) ?_ (fun i hi hc => by obtain rfl := hmm i hi hc; rcases hmv with rfl | rfl <;> exact ⟨rfl, rfl⟩) (RnT_pu hr) h
    (repeat (first | exact Keeps.nil | (refine Keeps.cons _ _ _ _ _ rfl rfl ?_ ?_; (· first | exact a2_I _ _ | exact a2_r _ _ | exact All2.cons _ _ _ _ (Rn1.agg _ _ (All2.cons _ _ _ _ (Rn0.own _ _ _ _ _ rfl) (All2.cons _ _ _ _ (Rn0.own _ _ _ _ _ rfl) (All2.cons _ _ _ _ (Rn0.own _ _ _ _ _ rfl) (All2.cons _ _ _ _ (Rn0.same _ rfl) (All2.cons _ _ _ _ (Rn0.same _ rfl) All2.nil)))))) All2.nil | (repeat (first | exact All2.nil | refine All2.cons _ _ _ _ (Rn1.agg _ _ (All2.cons _ _ _ _ (Rn0.same _ rfl) (All2.cons _ _ _ _ (Rn0.same _ rfl) (All2.cons _ _ _ _ (Rn0.own _ _ _ _ _ rfl) All2.nil)))) ?_))))))
  · refine fin_movK [0, 1, 2, 3, 4, 5, 6, 7, 8, 9, 10, 14, 12, 13] M13 (by decide) (by decide) ?_ (fun i hi hc => by obtain rfl := hmm i hi hc; rcases hmv with rfl | rfl <;> exact ⟨rfl, rfl⟩) (RnT_pu hr) h
    (repeat (first | exact Keeps.nil | (refine Keeps.cons _ _ _ _ _ rfl rfl ?_ ?_; (· first | exact a2_I _ _ | exact a2_r _ _ | exact All2.cons _ _ _ _ (Rn1.agg _ _ (All2.cons _ _ _ _ (Rn0.own _ _ _ _ _ rfl) (All2.cons _ _ _ _ (Rn0.own _ _ _ _ _ rfl) (All2.cons _ _ _ _ (Rn0.own _ _ _ _ _ rfl) (All2.cons _ _ _ _ (Rn0.same _ rfl) (All2.cons _ _ _ _ (Rn0.same _ rfl) All2.nil)))))) All2.nil | (repeat (first | exact All2.nil | refine All2.cons _ _ _ _ (Rn1.agg _ _ (All2.cons _ _ _ _ (Rn0.same _ rfl) (All2.cons _ _ _ _ (Rn0.same _ rfl) (All2.cons _ _ _ _ (Rn0.own _ _ _ _ _ rfl) All2.nil)))) ?_))))))
def InvM (k : Nat) (w : Int) (o : AObj) (S : Store) : Prop := getO S 13 = some o ∧ ∃ es, getO S 6 = some ⟨3, es⟩ ∧ k < es.length ∧ (es.getD k .any).cells.getD 1 .any = I w
theorem loadD_c (e : Eng) (tx : Int) (k : Nat) (vals : List Int) (hk : k < 5) (hd : Sz e.disk) (hm : Sz e.mem) (hl : e.log.length ≤ 1000) (hv : vals.length = 3) :
    AFn1 Tryz.prog 47 [.ref 13 5 0 0, .ro [iD tx], .ro [iD (k : Int)], .ro [.sl 1 (vals.map iD)]] (sD e) (.tup []) (sD (e.laid tx k vals)) M13 := by
  have hd5 := hd.len
  have hm5 := hm.len
  have hsz := hm.sz k hk
  have cA := addD e (ldR tx k) hd hm hl
  have cC := Clone_own vals (by omega) (by omega)
  have hal := alog_len e (ldR tx k)
  have hatd : at' (dps 7 e.mem) (k : Int) = ⟨7 + k, at' e.mem (k : Int)⟩ := dps_at (by omega)
  have hl2 : (dps 7 e.mem).length = 5 := by rw [dps_len, hm5]
  have h5 : (k : Int) < 5 := by omega
  have g13 : ∀ (e : Eng) T, getO (sD e ++ T) 13 = some ⟨5, [dW e]⟩ := fun e T => rfl
  have g6 : ∀ (e : Eng) T, getO (sD e ++ T) 6 = some ⟨3, (dps 7 e.mem).map dA⟩ := fun e T => rfl
  have gg13 : ∀ (e : Eng), getO (sD e) 13 = some ⟨5, [dW e]⟩ := fun e => rfl
  have gg6 : ∀ (e : Eng), getO (sD e) 6 = some ⟨3, (dps 7 e.mem).map dA⟩ := fun e => rfl
  refine afn1_of Tryz.func47 rfl rfl ?_
  simp -implicitDefEqProofs only [go_sem, Tryz.f47, sD_len, gg13, gg6]
  refine enter_sD (e' := ⟨e.disk, e.mem, e.alog (ldR tx k), e.safe, e.down⟩) (M := [12]) (B := []) cA (by simp) hd5 hm5 hd5 hm5 rfl rfl rfl rfl (by simp) rfl ?_
  simp -implicitDefEqProofs only [go_sem, scT, g13]
  refine cp_drawG (id := 1) 19 (InvM k (at' e.mem (k : Int)).owner ⟨5, [dW ⟨e.disk, e.mem, e.alog (ldR tx k), e.safe, e.down⟩]⟩) mixed rfl ?_
  have hx1 : k < ((dps 7 e.mem).map dA).length := by simp [hl2]; omega
  have hx2 : (((dps 7 e.mem).map dA).getD k .any).cells.getD 1 .any = I (at' e.mem (k : Int)).owner := by
    rw [getM (by omega), hatd]
    rfl
  have hinv : InvM k (at' e.mem (k : Int)).owner ⟨5, [dW ⟨e.disk, e.mem, e.alog (ldR tx k), e.safe, e.down⟩]⟩ (sD ⟨e.disk, e.mem, e.alog (ldR tx k), e.safe, e.down⟩) := ⟨rfl, _, rfl, hx1, hx2⟩
  ((refine expG_get 0 (.ref 13 5 0 0) rfl ?_ ?_ hinv ?_ ?_); (· decide +kernel); (· decide +kernel); (· (rintro S ⟨hS0, es, hS1, hS2, hS3⟩; simp -implicitDefEqProofs only [go_sem, hS0, hS1, hS2, hS3, *])); try simp -implicitDefEqProofs only [go_sem, List.set_cons_succ, List.set_cons_zero])
  ((refine expG_get 1 (.ref 13 5 0 0) rfl ?_ ?_ hinv ?_ ?_); (· decide +kernel); (· decide +kernel); (· (rintro S ⟨hS0, es, hS1, hS2, hS3⟩; simp -implicitDefEqProofs only [go_sem, hS0, hS1, hS2, hS3, *])); try simp -implicitDefEqProofs only [go_sem, List.set_cons_succ, List.set_cons_zero])
  ((refine expG_get 2 (.ref 13 5 0 1) rfl ?_ ?_ hinv ?_ ?_); (· decide +kernel); (· decide +kernel); (· (rintro S ⟨hS0, es, hS1, hS2, hS3⟩; simp -implicitDefEqProofs only [go_sem, hS0, hS1, hS2, hS3, *])); try simp -implicitDefEqProofs only [go_sem, List.set_cons_succ, List.set_cons_zero])
  ((refine expG_get 3 (.own 6 3 0 5) rfl ?_ ?_ hinv ?_ ?_); (· decide +kernel); (· decide +kernel); (· (rintro S ⟨hS0, es, hS1, hS2, hS3⟩; simp -implicitDefEqProofs only [go_sem, hS0, hS1, hS2, hS3, *])); try simp -implicitDefEqProofs only [go_sem, List.set_cons_succ, List.set_cons_zero])
  ((refine expG_get 4 (I (k : Int)) rfl ?_ ?_ hinv ?_ ?_); (· decide +kernel); (· decide +kernel); (· (rintro S ⟨hS0, es, hS1, hS2, hS3⟩; simp -implicitDefEqProofs only [go_sem, hS0, hS1, hS2, hS3, *])); try simp -implicitDefEqProofs only [go_sem, List.set_cons_succ, List.set_cons_zero])
  ((refine expG_get 5 (I ((e.log.length + 1 : Nat) : Int)) rfl ?_ ?_ hinv ?_ ?_); (· decide +kernel); (· decide +kernel); (· (rintro S ⟨hS0, es, hS1, hS2, hS3⟩; simp -implicitDefEqProofs only [go_sem, hS0, hS1, hS2, hS3, *])); try simp -implicitDefEqProofs only [go_sem, List.set_cons_succ, List.set_cons_zero])
  ((refine expG_get 6 (.ref 13 5 0 0) rfl ?_ ?_ hinv ?_ ?_); (· decide +kernel); (· decide +kernel); (· (rintro S ⟨hS0, es, hS1, hS2, hS3⟩; simp -implicitDefEqProofs only [go_sem, hS0, hS1, hS2, hS3, *])); try simp -implicitDefEqProofs only [go_sem, List.set_cons_succ, List.set_cons_zero])
  ((refine expG_get 7 (.ref 13 5 0 0) rfl ?_ ?_ hinv ?_ ?_); (· decide +kernel); (· decide +kernel); (· (rintro S ⟨hS0, es, hS1, hS2, hS3⟩; simp -implicitDefEqProofs only [go_sem, hS0, hS1, hS2, hS3, *])); try simp -implicitDefEqProofs only [go_sem, List.set_cons_succ, List.set_cons_zero])
  ((refine expG_get 8 (.ref 13 5 0 1) rfl ?_ ?_ hinv ?_ ?_); (· decide +kernel); (· decide +kernel); (· (rintro S ⟨hS0, es, hS1, hS2, hS3⟩; simp -implicitDefEqProofs only [go_sem, hS0, hS1, hS2, hS3, *])); try simp -implicitDefEqProofs only [go_sem, List.set_cons_succ, List.set_cons_zero])
  ((refine expG_get 9 (.own 6 3 0 5) rfl ?_ ?_ hinv ?_ ?_); (· decide +kernel); (· decide +kernel); (· (rintro S ⟨hS0, es, hS1, hS2, hS3⟩; simp -implicitDefEqProofs only [go_sem, hS0, hS1, hS2, hS3, *])); try simp -implicitDefEqProofs only [go_sem, List.set_cons_succ, List.set_cons_zero])
  ((refine expG_get 10 (I (k : Int)) rfl ?_ ?_ hinv ?_ ?_); (· decide +kernel); (· decide +kernel); (· (rintro S ⟨hS0, es, hS1, hS2, hS3⟩; simp -implicitDefEqProofs only [go_sem, hS0, hS1, hS2, hS3, *])); try simp -implicitDefEqProofs only [go_sem, List.set_cons_succ, List.set_cons_zero])
  ((refine expG_get 11 (.ref 6 3 k 0) rfl ?_ ?_ hinv ?_ ?_); (· decide +kernel); (· decide +kernel); (· (rintro S ⟨hS0, es, hS1, hS2, hS3⟩; simp -implicitDefEqProofs only [go_sem, hS0, hS1, hS2, hS3, *])); try simp -implicitDefEqProofs only [go_sem, List.set_cons_succ, List.set_cons_zero])
  ((refine expG_get 12 (.ref 6 3 k 1) rfl ?_ ?_ hinv ?_ ?_); (· decide +kernel); (· decide +kernel); (· (rintro S ⟨hS0, es, hS1, hS2, hS3⟩; simp -implicitDefEqProofs only [go_sem, hS0, hS1, hS2, hS3, *])); try simp -implicitDefEqProofs only [go_sem, List.set_cons_succ, List.set_cons_zero])
  ((refine expG_get 13 (I (at' e.mem (k : Int)).owner) rfl ?_ ?_ hinv ?_ ?_); (· decide +kernel); (· decide +kernel); (· (rintro S ⟨hS0, es, hS1, hS2, hS3⟩; simp -implicitDefEqProofs only [go_sem, hS0, hS1, hS2, hS3, *])); try simp -implicitDefEqProofs only [go_sem, List.set_cons_succ, List.set_cons_zero])
  ((refine expG_get 14 (ints vals) rfl ?_ ?_ hinv ?_ ?_); (· decide +kernel); (· decide +kernel); (· (rintro S ⟨hS0, es, hS1, hS2, hS3⟩; simp -implicitDefEqProofs only [go_sem, hS0, hS1, hS2, hS3, *])); try simp -implicitDefEqProofs only [go_sem, List.set_cons_succ, List.set_cons_zero])
  ((with_reducible refine expG_one 15 ?_ ?_); (· decide +kernel); try simp -implicitDefEqProofs only [go_sem, *])
  (repeat' (first | ((with_reducible first | refine gon ?_ ?_ | refine gos ?_ ?_ | refine cdn ?_ ?_ | refine cds ?_ ?_ | refine gpn ?_ ?_ | refine gps ?_ ?_) <;> intro h <;> (try simp only [dt, df, gi, gt] at h) <;> try simp -implicitDefEqProofs only [go_sem, *]) | ((with_reducible refine And.intro ?_ ?_); (· first | omega | (simp only [List.length_take]; omega)); try simp -implicitDefEqProofs only [go_sem, *]) | first | ((with_reducible refine enter_fn (cC) ?_ ?_); (· rfl); try simp -implicitDefEqProofs only [go_sem, *]) | fail))
  refine ⟨⟨rfl, _, rfl, hx1, hx2⟩, ?_⟩
  ((with_reducible refine expG_one 16 ?_ ?_); (· decide +kernel); try simp -implicitDefEqProofs only [go_sem, *])
  refine ⟨⟨rfl, _, rfl, hx1, hx2⟩, ?_⟩
  ((with_reducible refine expG_one 17 ?_ ?_); (· decide +kernel); try simp -implicitDefEqProofs only [go_sem, *])
  refine ⟨⟨rfl, _, rfl, hx1, hx2⟩, ?_⟩
  ((with_reducible refine expG_one 18 ?_ ?_); (· decide +kernel); try simp -implicitDefEqProofs only [go_sem, *])
  refine ⟨⟨rfl, _, rfl, by rw [List.length_set]; exact hx1, by rw [show ∀ x : AV, (((dps 7 e.mem).map dA).set k x).getD k .any = x from fun x => by simp [List.getD, hl2, hk]]; rfl⟩, ?_⟩
  ((with_reducible refine expG_end ?_ ?_); (· decide +kernel); try simp -implicitDefEqProofs only [go_sem, *])
  (repeat' (first | ((with_reducible first | refine gon ?_ ?_ | refine gos ?_ ?_ | refine cdn ?_ ?_ | refine cds ?_ ?_ | refine gpn ?_ ?_ | refine gps ?_ ?_) <;> intro h <;> (try simp only [dt, df, gi, gt] at h) <;> try simp -implicitDefEqProofs only [go_sem, *]) | ((with_reducible refine And.intro ?_ ?_); (· first | omega | (simp only [List.length_take]; omega)); try simp -implicitDefEqProofs only [go_sem, *]) | fail))
  have := fin_mem14 (a := ((e.log.length + 1 : Nat) : Int)) (b := (at' e.mem (k : Int)).owner) (vals := vals) (n := 3) (p := k) (e := ⟨e.disk, e.mem, e.alog (ldR tx k), e.safe, e.down⟩) (r := .tup []) (mv := [12]) (Q := fun r' S' mv => r' = AV.tup [] ∧ S' = sD (e.laid tx k vals) ∧ mv = M13) hk hd5 hm5 hv.symm (.inl rfl) (.inr rfl) ⟨rfl, by unfold Eng.laid; rw [hal]; rfl, rfl⟩
  exact this
end
section
attribute [local go_sem] slt_r slt_I slt_p
theorem valsB_len {e : Eng} {tx page : Int} {vals : List Int} (h : e.loadB tx page vals = true) : vals.length = 3 := by
  unfold Eng.loadB at h
  simp only [Bool.and_eq_true, decide_eq_true_eq] at h
  exact h.1.1.1.1.2
theorem change_load (e : Eng) (tx page : Int) (vals : List Int) (hok : okE e = true) (hs : e.small) (hv : vals.length < 4611686018427387904) :
    Fn Tryz.prog 46 [eA e, I tx, I page, .clo 40 [.ro [iD page], .ro [.sl 1 (vals.map iD)], .ro [iD tx]], .clo 47 [.ro [iD tx], .ro [iD page], .ro [.sl 1 (vals.map iD)]]]
      (fun r S => r = dR (e.load tx page vals) ∧ S = dS 0 (e.load tx page vals).1) := by
  have hi := inv_of_ok hok
  have hlen := hi.len
  rcases hmay : mayB e tx page with _ | _
  · have e1 : e.load tx page vals = (e, false) := by
      unfold Eng.load Eng.loadB
      rw [hmay]
      rfl
    rw [e1]
    exact change_may e tx page _ _ _ _ hok hs hmay
  obtain ⟨-, ht, hp⟩ := mayB_iff hmay
  obtain ⟨k, hk, rfl⟩ := page_nat hp
  have cH := loadH_fn e tx k vals hk hi hv
  have hlb : e.loadB tx k vals = ldH e tx k vals := by
    rw [ldH_eq e tx k vals hi]
    unfold Eng.loadB
    rw [hmay, Bool.true_and]
  rcases hh : ldH e tx k vals with _ | _
  · have e1 : e.load tx k vals = (e, false) := by
      unfold Eng.load
      rw [hlb, hh]
      rfl
    rw [e1]
    rw [hh] at cH
    exact change_hold e tx k _ _ _ _ hok hs hmay rfl cH
  rw [hh] at cH hlb
  have hv3 := valsB_len hlb
  have hc := can_load hi hmay
  have hw := can_wf hi hc
  have cD := loadD_c e tx k vals hk hi.disk.sz hi.mem.sz (by omega) hv3
  by_cases hf : e.fits (ldR tx k) = true
  · have e1 : e.load tx k vals = (e.laid tx k vals, true) := by unfold Eng.load; rw [if_pos hlb, if_pos hf]
    rw [e1]
    exact change_ok e tx k _ _ _ _ (e.laid tx k vals) hok hs hmay hi.disk.len (by simp [Eng.laid, hi.mem.len]) rfl rfl cH cD hw (by simpa [Eng.fits, Eng.laid] using hf)
  · have e1 : e.load tx k vals = (e, false) := by unfold Eng.load; rw [if_pos hlb, if_neg hf]
    rw [e1]
    exact change_full e tx k _ _ _ _ (e.laid tx k vals) hok hs hmay hi.disk.len (by simp [Eng.laid, hi.mem.len]) rfl rfl cH cD hw (by simpa [Eng.fits, Eng.laid] using hf)
theorem ChangeLoadI_own (e : Eng) (tx page : Int) (vals : List Int) (hok : okE e = true) (hs : e.small) (hv : vals.length < 4611686018427387904) :
    Fn Tryz.prog 11 [eA e, I tx, I page, ints vals] (fun r S => r = dR (e.load tx page vals) ∧ S = dS 0 (e.load tx page vals).1) := by
  have c1 := change_load e tx page vals hok hs hv
  obtain ⟨⟨q, b⟩, hq⟩ : ∃ q, e.load tx page vals = q := ⟨_, rfl⟩
  rw [hq] at c1 ⊢
  clear hq hok
  obtain ⟨n1, hn1⟩ : ∃ n1, 5 + (1 + q.disk.length) = n1 := ⟨_, rfl⟩
  obtain ⟨n2, hn2⟩ : ∃ n2, 5 + (2 + q.disk.length + q.mem.length) = n2 := ⟨_, rfl⟩
  have box : ∀ {S : Store} {i : Nat} {x : AV} {d : D}, getO S i = some ⟨1, [x]⟩ → x.cells = [x] → x = d.av0 → x.pur0 = true → d.scalar = true → Arg1 S true (.ref i 1 0 0) (.ro [d]) := fun h hx hd hp hs => by
    refine .ref _ _ _ _ ⟨1, [_]⟩ _ rfl h rfl Nat.one_pos Nat.one_pos ?_ (by simp [hs])
    simp only [List.getD_cons_zero, List.map_cons, List.map_nil, hx, ← hd]
    exact .cons _ _ _ _ (.same _ hp) .nil
  refine fn_of Tryz.func11 rfl rfl ?_
  simp -implicitDefEqProofs only [go_sem, Tryz.f11]
  refine enter_seeE 5 n1 n2 rfl hn1 hn2 c1 (.cons _ _ _ _ (see_same rfl) (.cons _ _ _ _ (see_same rfl) (.cons _ _ _ _ (see_same rfl) (.cons _ _ _ _ (see_arg (.clo _ _ _ (.cons _ _ _ _ (box rfl rfl rfl rfl rfl) (.cons _ _ _ _ (box rfl rfl rfl rfl rfl) (.cons _ _ _ _ (box rfl rfl rfl rfl rfl) .nil)))))
    (.cons _ _ _ _ (see_arg (.clo _ _ _ (.cons _ _ _ _ (box rfl rfl rfl rfl rfl) (.cons _ _ _ _ (box rfl rfl rfl rfl rfl) (.cons _ _ _ _ (box rfl rfl rfl rfl rfl) .nil))))) .nil))))) ?_
  intro B hB
  simp -implicitDefEqProofs only [go_sem, true_and]
  exact fin_dVd 5 n1 n2 q hB (by simp) hn1 hn2
theorem ChangeLoadI_none (e : Eng) (tx page : Int) (vals : List Int) (hok : okE e = false) (hs : e.small) : Fn Tryz.prog 11 [eA e, I tx, I page, ints vals] (fun r S => r = .tup [zA, Bo false] ∧ S = []) := by
  have c1 := change_bad e tx page 40 47 [.ro [iD page], .ro [.sl 1 (vals.map iD)], .ro [iD tx]] [.ro [iD tx], .ro [iD page], .ro [.sl 1 (vals.map iD)]] hok hs
  have box : ∀ {S : Store} {i : Nat} {x : AV} {d : D}, getO S i = some ⟨1, [x]⟩ → x.cells = [x] → x = d.av0 → x.pur0 = true → d.scalar = true → Arg1 S true (.ref i 1 0 0) (.ro [d]) := fun h hx hd hp hs => by
    refine .ref _ _ _ _ ⟨1, [_]⟩ _ rfl h rfl Nat.one_pos Nat.one_pos ?_ (by simp [hs])
    simp only [List.getD_cons_zero, List.map_cons, List.map_nil, hx, ← hd]
    exact .cons _ _ _ _ (.same _ hp) .nil
  clear hok
  refine fn_of Tryz.func11 rfl rfl ?_
  simp -implicitDefEqProofs only [go_sem, Tryz.f11]
  refine enter_see c1 (.cons _ _ _ _ (see_same rfl) (.cons _ _ _ _ (see_same rfl) (.cons _ _ _ _ (see_same rfl) (.cons _ _ _ _ (see_arg (.clo _ _ _ (.cons _ _ _ _ (box rfl rfl rfl rfl rfl) (.cons _ _ _ _ (box rfl rfl rfl rfl rfl) (.cons _ _ _ _ (box rfl rfl rfl rfl rfl) .nil)))))
    (.cons _ _ _ _ (see_arg (.clo _ _ _ (.cons _ _ _ _ (box rfl rfl rfl rfl rfl) (.cons _ _ _ _ (box rfl rfl rfl rfl rfl) (.cons _ _ _ _ (box rfl rfl rfl rfl rfl) .nil))))) .nil))))) rfl (fun o ho => by cases ho) ?_
  simp -implicitDefEqProofs only [go_sem, shS, List.map_nil]
  exact fin_z
theorem ChangeLoadI_fn (e : Eng) (tx page : Int) (vals : List Int) (hs : e.small) (hv : vals.length < 4611686018427387904) : Fn1 Tryz.prog 11 [eA e, I tx, I page, ints vals] (.tup [eA (loadD e tx page vals).1, Bo (loadD e tx page vals).2]) := by
  unfold loadD
  rcases hok : okE e with _ | _
  · rw [if_neg (by simp)]
    exact fn1_of_own (ChangeLoadI_none e tx page vals hok hs) see_zA
  · rw [if_pos rfl]
    exact fn1_of_own (ChangeLoadI_own e tx page vals hok hs hv) (see_dR _)
end
section
attribute [local go_sem] slt_r slt_I slt_p ty_pe ro_cells cells sD_len yieldR_idx'
end
end Go.Proofs.YtfcnajhanjhonaaGreat.Am
end
section
set_option linter.unusedVariables false
set_option linter.unusedSimpArgs false
set_option maxRecDepth 100000
set_option maxHeartbeats 8000000
namespace Go.Proofs.YtfcnajhanjhonaaGreat.Am
open Go Go.RowKit Go.Proofs
attribute [local congr] opsP_congr codeP_congr AWP_congr afterR_congr preP_congr afterPre_congr gPre_congr gOps_congr condP_congr stepE_congr
attribute [local go_sem] ty_int ty_bool ty_str ty_u8 ty_ints ty_bytes ty_page ty_pages ty_lpage ty_lpages ty_rec ty_recs ty_lrec ty_lrecs ty_eng ty_leng
attribute [local go_sem] true_and and_true beq_true' beq_false' toNat_cast Int.natCast_nonneg Bool.not_not Bool.not_true Bool.not_false decide_true decide_false Bool.or_false Bool.false_or Bool.or_true Bool.true_or Bool.and_false Bool.false_and Nat.zero_add Int.toNat_of_nonneg wrap_succ wrap_m1 wrap_nat succ_m1 cast0 succ_pos' succ_ne' succ_bne' ge_iff_le gt_iff_lt if_true if_false
attribute [local go_sem] slt_r slt_I slt_p
end Go.Proofs.YtfcnajhanjhonaaGreat.Am
end
section
set_option linter.unusedVariables false
set_option linter.unusedSimpArgs false
set_option maxRecDepth 100000
set_option maxHeartbeats 8000000
namespace Go.Proofs.YtfcnajhanjhonaaGreat.Am
open Go Go.RowKit Go.Proofs
attribute [local go_sem_proc] Nat.reduceAdd Nat.reduceSub Nat.reduceMul Nat.reduceLT Nat.reduceLeDiff Nat.reduceEqDiff Int.reduceBEq Int.reduceBNe Int.reduceNeg Int.reduceSub Int.reduceLE Int.reduceLT
attribute [local go_sem_proc ↓] reduceIte
attribute [local congr] opsP_congr codeP_congr AWP_congr afterR_congr preP_congr afterPre_congr gPre_congr gOps_congr condP_congr stepE_congr
attribute [local go_sem] ty_int ty_bool ty_str ty_u8 ty_ints ty_bytes ty_page ty_pages ty_lpage ty_lpages ty_rec ty_recs ty_lrec ty_lrecs ty_eng ty_leng
attribute [local go_sem] true_and and_true beq_true' beq_false' toNat_cast Int.natCast_nonneg Bool.not_not Bool.not_true Bool.not_false decide_true decide_false Bool.or_false Bool.false_or Bool.or_true Bool.true_or Bool.and_false Bool.false_and Nat.zero_add Int.toNat_of_nonneg wrap_succ wrap_m1 wrap_nat succ_m1 cast0 succ_pos' succ_ne' succ_bne' ge_iff_le gt_iff_lt if_true if_false
section
attribute [local go_sem] slt_r slt_I slt_p ty_rd ty_ev ty_evs
end
section
attribute [local go_sem] slt_r slt_I slt_p
theorem FnExactChangeLoad_ok (e g : Eng) (b : Bool) (tx : Int) (page : Int) (vals : List Int) (hv : vals.length ≤ 1048576) (hs : e.small) (h0 : ¬ szE e 1048576 < 0) (hg : g.mid)
    (cS : Fn1 Tryz.prog 8 [eA e, I tx, I page, ints vals] (.tup [eA g, Bo b])) (cI : Fn1 Tryz.prog 11 [eA e, I tx, I page, ints vals] (.tup [eA g, Bo b]))
    (cIo : Fn Tryz.prog 11 [eA e, I tx, I page, ints vals] (fun r S => r = dR (g, b) ∧ S = dS 0 g)) : Fn1 Tryz.prog 3 [eA e, I tx, I page, ints vals] (Bo true) := by
  have hm : e.mid := mid_of h0
  have cz := szEngine_fn e 1048576 (by omega) hs
  have ct := toEngine_fn e hm
  have cto := toEngine_own e hm
  have ceg := eqEngine_fn g g hg.small
  rw [sameE_refl] at ceg
  have cee := eqEngine_fn e e hs
  rw [sameE_refl] at cee
  have cti := toIntS_fn vals (by omega)
  have ctio := toIntS_own vals (by omega)
  have cei := eqIntS_fn vals vals (by omega)
  rw [sameInts_refl] at cei
  have hvl : ¬ (1048576 : Int) < (vals.length : Int) := by omega
  refine fn1_of Tryz.func3 rfl rfl ?_
  simp -implicitDefEqProofs only [go_sem, Tryz.f3, hvl]
  (repeat' (first | ((with_reducible first | refine gon ?_ ?_ | refine gos ?_ ?_ | refine cdn ?_ ?_ | refine cds ?_ ?_ | refine gpn ?_ ?_ | refine gps ?_ ?_) <;> intro h <;> (try simp only [dt, df, gi, gt] at h) <;> try simp -implicitDefEqProofs only [go_sem, *]) | ((with_reducible refine And.intro ?_ ?_); (· first | omega | (simp only [List.length_take]; omega)); try simp -implicitDefEqProofs only [go_sem, *]) | ((with_reducible refine enter_pu (cz) ?_ ?_ ?_); (· rfl); (· rfl); try simp -implicitDefEqProofs only [go_sem, *])))
  ((with_reducible refine enter_pu (ct) ?_ ?_ ?_); (· rfl); (· rfl); try simp -implicitDefEqProofs only [go_sem, *])
  (repeat' (first | ((with_reducible first | refine gon ?_ ?_ | refine gos ?_ ?_ | refine cdn ?_ ?_ | refine cds ?_ ?_ | refine gpn ?_ ?_ | refine gps ?_ ?_) <;> intro h <;> (try simp only [dt, df, gi, gt] at h) <;> try simp -implicitDefEqProofs only [go_sem, *]) | ((with_reducible refine And.intro ?_ ?_); (· first | omega | (simp only [List.length_take]; omega)); try simp -implicitDefEqProofs only [go_sem, *]) | first | ((with_reducible refine enter_pu (cti) ?_ ?_ ?_); (· rfl); (· rfl); try simp -implicitDefEqProofs only [go_sem, *]) | ((with_reducible refine enter_pu (cS) ?_ ?_ ?_); (· rfl); (· rfl); try simp -implicitDefEqProofs only [go_sem, *]) | fail))
  obtain ⟨n1, hn1⟩ : ∃ n1, 2 + (1 + e.disk.length) = n1 := ⟨_, rfl⟩
  obtain ⟨n2, hn2⟩ : ∃ n2, 2 + (2 + e.disk.length + e.mem.length) = n2 := ⟨_, rfl⟩
  refine enter_fnE 2 n1 n2 rfl hn1 hn2 cto rfl ?_
  intro A hA
  obtain ⟨n, hn⟩ : ∃ n, A.length = n := ⟨_, rfl⟩
  have a0 : ∀ T, getO (A ++ T) 0 = some ⟨5, [eA e]⟩ := fun T => by rw [hA]; rfl
  have a1 : ∀ T, getO (A ++ T) 1 = some ⟨5, [eA g]⟩ := fun T => by rw [hA]; rfl
  have ax : ∀ (o : AObj) T, getO (A ++ some o :: T) n = some o := fun o T => by rw [← hn]; exact getO_app
  have ay : ∀ (o x : Option AObj) T, (A ++ o :: T).set n x = A ++ x :: T := fun o x T => by rw [← hn]; exact set_app
  replace hA := Hid.mk' hA
  simp -implicitDefEqProofs only [go_sem, List.append_assoc, hn, ax, ay, a0, a1]
  refine enter_fn ctio rfl ?_
  obtain ⟨C, hC⟩ : ∃ C, A ++ [some ⟨5, [dV 2 n1 n2 e]⟩] = C := ⟨_, rfl⟩
  obtain ⟨p, hp⟩ : ∃ p, C.length = p := ⟨_, rfl⟩
  have hpn : p = n + 1 := by rw [← hp, ← hC]; simp [hn]
  replace hpn := Hid.mk' hpn
  have c0 : ∀ T, getO (C ++ T) 0 = some ⟨5, [eA e]⟩ := fun T => by rw [← hC, List.append_assoc]; exact a0 _
  have c1 : ∀ T, getO (C ++ T) 1 = some ⟨5, [eA g]⟩ := fun T => by rw [← hC, List.append_assoc]; exact a1 _
  have cx : ∀ T, getO (C ++ T) n = some ⟨5, [dV 2 n1 n2 e]⟩ := fun T => by rw [← hC, List.append_assoc]; exact ax _ _
  have cv : ∀ (o : AObj) T, getO (C ++ some o :: T) p = some o := fun o T => by rw [← hp]; exact getO_app
  have hHx : ∀ T, Has (C ++ T) 2 (dS 2 e) := fun T => by
    have h : A = [some ⟨5, [eA e]⟩, some ⟨5, [eA g]⟩] ++ dS 2 e := hA
    rw [← hC, h, List.append_assoc, List.append_assoc]
    exact has_mid rfl
  have see_v : ∀ T, Sees (C ++ some ⟨1, vals.map I⟩ :: T) true (.own p 1 0 vals.length) (ints vals) := fun T => see_arg (.of1 _ _ (.of0 _ _ (arg0_I (cv _ _) rfl)))
  have hshv : shS 0 [some ⟨1, vals.map I⟩] = [some ⟨1, vals.map I⟩] := sh_oI
  rw [sh_oI]
  simp only [hC, hp]
  simp -implicitDefEqProofs only [go_sem, List.append_assoc, c0, c1, cx, cv, Nat.add_zero]
  obtain ⟨m1, hm1⟩ : ∃ m1, p + 1 + (1 + g.disk.length) = m1 := ⟨_, rfl⟩
  obtain ⟨m2, hm2⟩ : ∃ m2, p + 1 + (2 + g.disk.length + g.mem.length) = m2 := ⟨_, rfl⟩
  refine enter_seeE (p + 1) m1 m2 (by rw [List.length_append, hp]; rfl) hm1 hm2 cIo (.cons _ _ _ _ (see_dV hn1 hn2 (hHx _)) (.cons _ _ _ _ (see_same rfl) (.cons _ _ _ _ (see_same rfl) (.cons _ _ _ _ (see_v _) .nil)))) ?_
  intro B hB
  obtain ⟨bl, hbl⟩ : ∃ bl, B.length = bl := ⟨_, rfl⟩
  replace hB := Hid.mk' hB
  have bx : ∀ (c : Option AObj) (o : AObj) T, getO (C ++ c :: (B ++ some o :: T)) (p + (bl + 1)) = some o := fun c o T => getO_app2 hp hbl
  have by' : ∀ (c o x : Option AObj) T, (C ++ c :: (B ++ o :: T)).set (p + (bl + 1)) x = C ++ c :: (B ++ x :: T) := fun c o x T => set_app2 hp hbl
  have bnn : (b == b) = true := by cases b <;> rfl
  simp -implicitDefEqProofs only [go_sem, List.append_assoc, hp, hbl, c0, c1, cx, cv, bx, by']
  have seeG : ∀ c T, Sees (C ++ c :: (B ++ T)) true (dV (p + 1) m1 m2 g) (eA g) := fun c T => by
    have h : B = dS (p + 1) g := hB
    refine see_dV hm1 hm2 ?_
    rw [← h]
    exact has_app2 hp
  refine enter_see1 ceg (.cons _ _ _ _ (seeG _ _) (.cons _ _ _ _ (see_same rfl) .nil)) rfl rfl ?_
  simp -implicitDefEqProofs only [go_sem, c0, c1, cx, cv, bx, by', bnn]
  refine cp_drawG (id := 13) 5 (fun S => getO S n = some ⟨5, [dV 2 n1 n2 e]⟩ ∧ getO S 0 = some ⟨5, [eA e]⟩) mixed rfl ?_
  (refine expG_get 0 (dV 2 n1 n2 e) rfl ?_ ?_ ⟨cx _, c0 _⟩ ?_ ?_); (· decide +kernel); (· decide +kernel); (· (rintro S ⟨hS0, hS1⟩; simp -implicitDefEqProofs only [go_sem, hS0, hS1, *])); try simp -implicitDefEqProofs only [go_sem, List.set_cons_succ, List.set_cons_zero]
  (refine expG_get 1 (eA e) rfl ?_ ?_ ⟨cx _, c0 _⟩ ?_ ?_); (· decide +kernel); (· decide +kernel); (· (rintro S ⟨hS0, hS1⟩; simp -implicitDefEqProofs only [go_sem, hS0, hS1, *])); try simp -implicitDefEqProofs only [go_sem, List.set_cons_succ, List.set_cons_zero]
  ((with_reducible refine expG_one 2 ?_ ?_); (· decide +kernel); try simp -implicitDefEqProofs only [go_sem, *])
  ((with_reducible refine enter_pu (ct) ?_ ?_ ?_); (· rfl); (· rfl); try simp -implicitDefEqProofs only [go_sem, *])
  ((with_reducible refine expG_one 3 ?_ ?_); (· decide +kernel); try simp -implicitDefEqProofs only [go_sem, *])
  refine enter_see1 cee (.cons _ _ _ _ (see_dV hn1 hn2 (hHx _)) (.cons _ _ _ _ (see_same rfl) .nil)) rfl rfl ?_
  simp -implicitDefEqProofs only [go_sem, cx, c0]
  (repeat' (first | ((with_reducible first | refine gon ?_ ?_ | refine gos ?_ ?_ | refine cdn ?_ ?_ | refine cds ?_ ?_ | refine gpn ?_ ?_ | refine gps ?_ ?_) <;> intro h <;> (try simp only [dt, df, gi, gt] at h) <;> try simp -implicitDefEqProofs only [go_sem, *]) | ((with_reducible refine And.intro ?_ ?_); (· first | omega | (simp only [List.length_take]; omega)); try simp -implicitDefEqProofs only [go_sem, *]) | first | ((with_reducible refine expG_one 4 ?_ ?_); (· decide +kernel); try simp -implicitDefEqProofs only [go_sem, *]) | ((with_reducible refine expG_end ?_ ?_); (· decide +kernel); try simp -implicitDefEqProofs only [go_sem, *]) | ((with_reducible refine enter_pu (cti) ?_ ?_ ?_); (· rfl); (· rfl); try simp -implicitDefEqProofs only [go_sem, *]) | fail))
  refine enter_see1 cei (.cons _ _ _ _ (see_v _) (.cons _ _ _ _ (see_same rfl) .nil)) rfl rfl ?_
  simp -implicitDefEqProofs only [go_sem, cx, c0]
  (repeat' (first | ((with_reducible first | refine gon ?_ ?_ | refine gos ?_ ?_ | refine cdn ?_ ?_ | refine cds ?_ ?_ | refine gpn ?_ ?_ | refine gps ?_ ?_) <;> intro h <;> (try simp only [dt, df, gi, gt] at h) <;> try simp -implicitDefEqProofs only [go_sem, *]) | ((with_reducible refine And.intro ?_ ?_); (· first | omega | (simp only [List.length_take]; omega)); try simp -implicitDefEqProofs only [go_sem, *]) | fail))
  refine enter_mid 2 (A := [some ⟨5, [eA e]⟩, some ⟨5, [eA g]⟩]) (X0 := dS 0 e) (X1 := dS 0 (markE 1 e)) (B := some ⟨5, [dV 2 n1 n2 e]⟩ :: some ⟨1, vals.map I⟩ :: (B ++ [some ⟨5, [dV (p + 1) m1 m2 g]⟩])) (args' := [dE 0 e, I 1]) (markEngine_c e hm) ?_ rfl dS_mark_len (by rw [dS_len]; exact cl_dS (by omega)) ?_ rfl ?_ ?_ ?_
  · have h : A = [some ⟨5, [eA e]⟩, some ⟨5, [eA g]⟩] ++ dS 2 e := hA
    rw [sh_dS, Nat.add_zero, ← hC, h]
    simp only [List.append_assoc, List.cons_append, List.nil_append]
  · rw [← dS_mark_len (k := 1), dS_len]
    exact cl_dS (by omega)
  · rw [List.map_cons, sh_dE, Nat.add_zero, ← dV_eq hn1 hn2, List.map_cons, List.map_nil, sh_prim]
  · simp only [List.all_cons, List.all_nil, Bool.and_true]
    rw [dS_len]
    exact Bool.and_eq_true_iff.2 ⟨cl_dE (by omega), rfl⟩
  obtain ⟨C2, hC2⟩ : ∃ C2, [some ⟨5, [eA e]⟩, some ⟨5, [eA g]⟩] ++ shS 2 (dS 0 (markE 1 e)) ++ [some ⟨5, [dV 2 n1 n2 e]⟩] = C2 := ⟨_, rfl⟩
  have hn2' : (([some ⟨5, [eA e]⟩, some ⟨5, [eA g]⟩] : Store) ++ shS 2 (dS 0 (markE 1 e))).length = n := by
    have h1 : A = [some ⟨5, [eA e]⟩, some ⟨5, [eA g]⟩] ++ dS 2 e := hA
    rw [← hn, h1, List.length_append, List.length_append, shS_len, dS_mark_len, dS_len, dS_len]
  have hp' : C2.length = p := by
    have h : p = n + 1 := hpn
    rw [← hC2, List.length_append, hn2', h]
    rfl
  have c0' : ∀ T, getO (C2 ++ T) 0 = some ⟨5, [eA e]⟩ := fun T => by rw [← hC2]; rfl
  have c1' : ∀ T, getO (C2 ++ T) 1 = some ⟨5, [eA g]⟩ := fun T => by rw [← hC2]; rfl
  have cv' : ∀ (o : AObj) T, getO (C2 ++ some o :: T) p = some o := fun o T => by rw [← hp']; exact getO_app
  have e3 : ∀ T, [some ⟨5, [eA e]⟩, some ⟨5, [eA g]⟩] ++ shS 2 (dS 0 (markE 1 e)) ++ some ⟨5, [dV 2 n1 n2 e]⟩ :: T = C2 ++ T := fun T => by rw [← hC2]; simp only [List.append_assoc, List.cons_append, List.nil_append]
  obtain ⟨_, hcd, hcm⟩ := hm.low
  have kb : 0 ≤ 1 + (cntE e : Int) ∧ 1 + (cntE e : Int) ≤ 1000000000000000 := by
    have := hm.log
    unfold cntE
    omega
  have k1 : ¬ (1 + (cntE e : Int) + (vals.length : Int) < 0) := by omega
  have k2 : ¬ (1 + (cntE g : Int) < 0) := by omega
  have k3 : ((1 + (cntE g : Int)) != (1 + (cntE g : Int))) = false := by simp
  have hh := heldEngine_fn g hg
  rw [e3]
  clear e3
  simp -implicitDefEqProofs only [go_sem, c0', c1', cv']
  refine enter_mid p (A := C2) (X0 := [some ⟨1, vals.map I⟩]) (X1 := [some ⟨1, (markI (1 + (cntE e : Int)) vals.length).map I⟩]) (B := B ++ [some ⟨5, [dV (p + 1) m1 m2 g]⟩]) (args' := [.own 0 1 0 vals.length, I (1 + (cntE e : Int))]) (markIntS_c vals _ kb (by omega)) ?_ hp' rfl cl_oI cl_oI rfl ?_ rfl ?_
  · rw [sh_oI]
    simp only [List.append_assoc, List.cons_append, List.nil_append]
  · simp [AV.sh, AV.sh1, AV.sh0]
  rw [sh_oI]
  obtain ⟨v2, hv2⟩ : ∃ v2, (some ⟨1, (markI (1 + (cntE e : Int)) vals.length).map I⟩ : Option AObj) = v2 := ⟨_, rfl⟩
  rw [hv2]
  have bx' : ∀ (c : Option AObj) (o : AObj) T, getO (C2 ++ c :: (B ++ some o :: T)) (p + (bl + 1)) = some o := fun c o T => getO_app2 hp' hbl
  have seeG' : ∀ c T, Sees (C2 ++ c :: (B ++ T)) true (dV (p + 1) m1 m2 g) (eA g) := fun c T => by
    have h : B = dS (p + 1) g := hB
    refine see_dV hm1 hm2 ?_
    rw [← h]
    exact has_app2 hp'
  clear hv2
  simp -implicitDefEqProofs only [go_sem, List.append_assoc, List.cons_append, List.nil_append, c0', c1', bx', k1]
  refine enter_see1 ceg (.cons _ _ _ _ (seeG' _ _) (.cons _ _ _ _ (see_same rfl) .nil)) rfl rfl ?_
  simp -implicitDefEqProofs only [go_sem, c0', c1', bx', bnn]
  (repeat' (first | ((with_reducible first | refine gon ?_ ?_ | refine gos ?_ ?_ | refine cdn ?_ ?_ | refine cds ?_ ?_ | refine gpn ?_ ?_ | refine gps ?_ ?_) <;> intro h <;> (try simp only [dt, df, gi, gt] at h) <;> try simp -implicitDefEqProofs only [go_sem, *]) | ((with_reducible refine And.intro ?_ ?_); (· first | omega | (simp only [List.length_take]; omega)); try simp -implicitDefEqProofs only [go_sem, *]) | fail))
  refine enter_mid (p + 1) (A := C2 ++ [v2]) (X0 := dS 0 g) (X1 := dS 0 (markE 1 g)) (B := [some ⟨5, [dV (p + 1) m1 m2 g]⟩]) (args' := [dE 0 g, I 1]) (markEngine_c g hg) ?_ (by rw [List.length_append, hp']; rfl) dS_mark_len (by rw [dS_len]; exact cl_dS (by omega)) ?_ rfl ?_ ?_ ?_
  · have h : B = dS (p + 1) g := hB
    rw [sh_dS, Nat.add_zero, ← h, List.append_assoc, List.append_assoc]
    rfl
  · rw [← dS_mark_len (k := 1), dS_len]
    exact cl_dS (by omega)
  · rw [List.map_cons, sh_dE, Nat.add_zero, ← dV_eq hm1 hm2, List.map_cons, List.map_nil, sh_prim]
  · simp only [List.all_cons, List.all_nil, Bool.and_true]
    rw [dS_len]
    exact Bool.and_eq_true_iff.2 ⟨cl_dE (by omega), rfl⟩
  obtain ⟨B2, hB2⟩ : ∃ B2, shS (p + 1) (dS 0 (markE 1 g)) = B2 := ⟨_, rfl⟩
  have hbl' : B2.length = bl := by
    have h : B = dS (p + 1) g := hB
    rw [← hB2, ← hbl, h, shS_len, dS_mark_len, dS_len, dS_len]
  have bx2 : ∀ (c : Option AObj) (o : AObj) T, getO (C2 ++ c :: (B2 ++ some o :: T)) (p + (bl + 1)) = some o := fun c o T => getO_app2 hp' hbl'
  have see2 : ∀ c T, Sees (C2 ++ c :: (B2 ++ T)) true (dV (p + 1) m1 m2 g) (eA (markE 1 g)) := fun c T => by
    have h : dS (p + 1) (markE 1 g) = B2 := by rw [← hB2, sh_dS, Nat.add_zero]
    rw [dV_eq hm1 hm2, ← dE_mark (k := 1)]
    refine see_dE ?_
    rw [h]
    exact has_app2 hp'
  rw [hB2]
  clear hB2
  simp -implicitDefEqProofs only [go_sem, List.append_assoc, List.cons_append, List.nil_append, c0', c1', bx2, k2]
  refine enter_see1 hh (.cons _ _ _ _ (see2 _ _) (.cons _ _ _ _ (see_same rfl) .nil)) rfl rfl ?_
  simp -implicitDefEqProofs only [go_sem, c0', c1', bx2, k2, k3]
  have cx2 : ∀ (c d : Option AObj) (o : AObj) T, getO (C2 ++ c :: (B2 ++ d :: some o :: T)) (p + (bl + 1 + 1)) = some o := fun c d o T => getO_app3 hp' hbl'
  have cy2 : ∀ (c d o x : Option AObj) T, (C2 ++ c :: (B2 ++ d :: o :: T)).set (p + (bl + 1 + 1)) x = C2 ++ c :: (B2 ++ d :: x :: T) := fun c d o x T => set_app3 hp' hbl'
  ((with_reducible refine enter_pu (ct) ?_ ?_ ?_); (· rfl); (· rfl); try simp -implicitDefEqProofs only [go_sem, *])
  ((with_reducible refine enter_pu (cti) ?_ ?_ ?_); (· rfl); (· rfl); try simp -implicitDefEqProofs only [go_sem, *])
  ((with_reducible refine enter_pu (cI) ?_ ?_ ?_); (· rfl); (· rfl); try simp -implicitDefEqProofs only [go_sem, *])
  simp -implicitDefEqProofs only [go_sem, List.append_assoc, List.cons_append, List.nil_append, c0', c1', bx2, k2, k3, cx2, cy2, bnn]
  (repeat' (first | ((with_reducible first | refine gon ?_ ?_ | refine gos ?_ ?_ | refine cdn ?_ ?_ | refine cds ?_ ?_ | refine gpn ?_ ?_ | refine gps ?_ ?_) <;> intro h <;> (try simp only [dt, df, gi, gt] at h) <;> try simp -implicitDefEqProofs only [go_sem, *]) | ((with_reducible refine And.intro ?_ ?_); (· first | omega | (simp only [List.length_take]; omega)); try simp -implicitDefEqProofs only [go_sem, *]) | ((with_reducible refine enter_pu (ceg) ?_ ?_ ?_); (· rfl); (· rfl); try simp -implicitDefEqProofs only [go_sem, *])))
  refine enter_see1 hh (.cons _ _ _ _ (see2 _ _) (.cons _ _ _ _ (see_same rfl) .nil)) rfl rfl ?_
  simp -implicitDefEqProofs only [go_sem, k2, k3]
  (repeat' (first | ((with_reducible first | refine gon ?_ ?_ | refine gos ?_ ?_ | refine cdn ?_ ?_ | refine cds ?_ ?_ | refine gpn ?_ ?_ | refine gps ?_ ?_) <;> intro h <;> (try simp only [dt, df, gi, gt] at h) <;> try simp -implicitDefEqProofs only [go_sem, *]) | ((with_reducible refine And.intro ?_ ?_); (· first | omega | (simp only [List.length_take]; omega)); try simp -implicitDefEqProofs only [go_sem, *]) | fail))
  all_goals exact fin_pu rfl rfl
theorem FnExactChangeLoad_no (e g : Eng) (b : Bool) (tx : Int) (page : Int) (vals : List Int) (hv : vals.length ≤ 1048576) (hs : e.small) (h0 : ¬ szE e 1048576 < 0) (hgz : g = zeroE)
    (cS : Fn1 Tryz.prog 8 [eA e, I tx, I page, ints vals] (.tup [eA g, Bo b])) (cI : Fn1 Tryz.prog 11 [eA e, I tx, I page, ints vals] (.tup [eA g, Bo b]))
    (cIo : Fn Tryz.prog 11 [eA e, I tx, I page, ints vals] (fun r S => r = .tup [zA, Bo b] ∧ S = [])) : Fn1 Tryz.prog 3 [eA e, I tx, I page, ints vals] (Bo true) := by
  have hg : g.mid := by rw [hgz]; exact zeroE_mid
  replace hgz := Hid.mk' hgz
  have hm : e.mid := mid_of h0
  have cz := szEngine_fn e 1048576 (by omega) hs
  have ct := toEngine_fn e hm
  have cto := toEngine_own e hm
  have ceg := eqEngine_fn g g hg.small
  rw [sameE_refl] at ceg
  have cee := eqEngine_fn e e hs
  rw [sameE_refl] at cee
  have cti := toIntS_fn vals (by omega)
  have ctio := toIntS_own vals (by omega)
  have cei := eqIntS_fn vals vals (by omega)
  rw [sameInts_refl] at cei
  have hvl : ¬ (1048576 : Int) < (vals.length : Int) := by omega
  refine fn1_of Tryz.func3 rfl rfl ?_
  simp -implicitDefEqProofs only [go_sem, Tryz.f3, hvl]
  (repeat' (first | ((with_reducible first | refine gon ?_ ?_ | refine gos ?_ ?_ | refine cdn ?_ ?_ | refine cds ?_ ?_ | refine gpn ?_ ?_ | refine gps ?_ ?_) <;> intro h <;> (try simp only [dt, df, gi, gt] at h) <;> try simp -implicitDefEqProofs only [go_sem, *]) | ((with_reducible refine And.intro ?_ ?_); (· first | omega | (simp only [List.length_take]; omega)); try simp -implicitDefEqProofs only [go_sem, *]) | ((with_reducible refine enter_pu (cz) ?_ ?_ ?_); (· rfl); (· rfl); try simp -implicitDefEqProofs only [go_sem, *])))
  ((with_reducible refine enter_pu (ct) ?_ ?_ ?_); (· rfl); (· rfl); try simp -implicitDefEqProofs only [go_sem, *])
  (repeat' (first | ((with_reducible first | refine gon ?_ ?_ | refine gos ?_ ?_ | refine cdn ?_ ?_ | refine cds ?_ ?_ | refine gpn ?_ ?_ | refine gps ?_ ?_) <;> intro h <;> (try simp only [dt, df, gi, gt] at h) <;> try simp -implicitDefEqProofs only [go_sem, *]) | ((with_reducible refine And.intro ?_ ?_); (· first | omega | (simp only [List.length_take]; omega)); try simp -implicitDefEqProofs only [go_sem, *]) | first | ((with_reducible refine enter_pu (cti) ?_ ?_ ?_); (· rfl); (· rfl); try simp -implicitDefEqProofs only [go_sem, *]) | ((with_reducible refine enter_pu (cS) ?_ ?_ ?_); (· rfl); (· rfl); try simp -implicitDefEqProofs only [go_sem, *]) | fail))
  obtain ⟨n1, hn1⟩ : ∃ n1, 2 + (1 + e.disk.length) = n1 := ⟨_, rfl⟩
  obtain ⟨n2, hn2⟩ : ∃ n2, 2 + (2 + e.disk.length + e.mem.length) = n2 := ⟨_, rfl⟩
  refine enter_fnE 2 n1 n2 rfl hn1 hn2 cto rfl ?_
  intro A hA
  obtain ⟨n, hn⟩ : ∃ n, A.length = n := ⟨_, rfl⟩
  have a0 : ∀ T, getO (A ++ T) 0 = some ⟨5, [eA e]⟩ := fun T => by rw [hA]; rfl
  have a1 : ∀ T, getO (A ++ T) 1 = some ⟨5, [eA g]⟩ := fun T => by rw [hA]; rfl
  have ax : ∀ (o : AObj) T, getO (A ++ some o :: T) n = some o := fun o T => by rw [← hn]; exact getO_app
  have ay : ∀ (o x : Option AObj) T, (A ++ o :: T).set n x = A ++ x :: T := fun o x T => by rw [← hn]; exact set_app
  replace hA := Hid.mk' hA
  simp -implicitDefEqProofs only [go_sem, List.append_assoc, hn, ax, ay, a0, a1]
  refine enter_fn ctio rfl ?_
  obtain ⟨C, hC⟩ : ∃ C, A ++ [some ⟨5, [dV 2 n1 n2 e]⟩] = C := ⟨_, rfl⟩
  obtain ⟨p, hp⟩ : ∃ p, C.length = p := ⟨_, rfl⟩
  have hpn : p = n + 1 := by rw [← hp, ← hC]; simp [hn]
  replace hpn := Hid.mk' hpn
  have c0 : ∀ T, getO (C ++ T) 0 = some ⟨5, [eA e]⟩ := fun T => by rw [← hC, List.append_assoc]; exact a0 _
  have c1 : ∀ T, getO (C ++ T) 1 = some ⟨5, [eA g]⟩ := fun T => by rw [← hC, List.append_assoc]; exact a1 _
  have cx : ∀ T, getO (C ++ T) n = some ⟨5, [dV 2 n1 n2 e]⟩ := fun T => by rw [← hC, List.append_assoc]; exact ax _ _
  have cv : ∀ (o : AObj) T, getO (C ++ some o :: T) p = some o := fun o T => by rw [← hp]; exact getO_app
  have hHx : ∀ T, Has (C ++ T) 2 (dS 2 e) := fun T => by
    have h : A = [some ⟨5, [eA e]⟩, some ⟨5, [eA g]⟩] ++ dS 2 e := hA
    rw [← hC, h, List.append_assoc, List.append_assoc]
    exact has_mid rfl
  have see_v : ∀ T, Sees (C ++ some ⟨1, vals.map I⟩ :: T) true (.own p 1 0 vals.length) (ints vals) := fun T => see_arg (.of1 _ _ (.of0 _ _ (arg0_I (cv _ _) rfl)))
  have hshv : shS 0 [some ⟨1, vals.map I⟩] = [some ⟨1, vals.map I⟩] := sh_oI
  rw [sh_oI]
  simp only [hC, hp]
  simp -implicitDefEqProofs only [go_sem, List.append_assoc, c0, c1, cx, cv, Nat.add_zero]
  refine enter_see cIo (.cons _ _ _ _ (see_dV hn1 hn2 (hHx _)) (.cons _ _ _ _ (see_same rfl) (.cons _ _ _ _ (see_same rfl) (.cons _ _ _ _ (see_v _) .nil)))) rfl (fun o ho => by cases ho) ?_
  have bx : ∀ (c : Option AObj) (o : AObj) T, getO (C ++ c :: some o :: T) (p + 1) = some o := fun c o T => getO_app2 (B := []) hp rfl
  have by' : ∀ (c o x : Option AObj) T, (C ++ c :: o :: T).set (p + 1) x = C ++ c :: x :: T := fun c o x T => set_app2 (B := []) hp rfl
  have bnn : (b == b) = true := by cases b <;> rfl
  simp -implicitDefEqProofs only [go_sem, shS, List.map_nil, List.append_nil, List.append_assoc, hp, c0, c1, cx, cv, bx, by']
  have seeG : ∀ S, Sees S true zA (eA g) := fun S => by rw [hgz]; exact see_z
  refine enter_see1 ceg (.cons _ _ _ _ (seeG _) (.cons _ _ _ _ (see_same rfl) .nil)) rfl rfl ?_
  simp -implicitDefEqProofs only [go_sem, c0, c1, cx, cv, bx, by', bnn]
  refine cp_drawG (id := 13) 5 (fun S => getO S n = some ⟨5, [dV 2 n1 n2 e]⟩ ∧ getO S 0 = some ⟨5, [eA e]⟩) mixed rfl ?_
  (refine expG_get 0 (dV 2 n1 n2 e) rfl ?_ ?_ ⟨cx _, c0 _⟩ ?_ ?_); (· decide +kernel); (· decide +kernel); (· (rintro S ⟨hS0, hS1⟩; simp -implicitDefEqProofs only [go_sem, hS0, hS1, *])); try simp -implicitDefEqProofs only [go_sem, List.set_cons_succ, List.set_cons_zero]
  (refine expG_get 1 (eA e) rfl ?_ ?_ ⟨cx _, c0 _⟩ ?_ ?_); (· decide +kernel); (· decide +kernel); (· (rintro S ⟨hS0, hS1⟩; simp -implicitDefEqProofs only [go_sem, hS0, hS1, *])); try simp -implicitDefEqProofs only [go_sem, List.set_cons_succ, List.set_cons_zero]
  ((with_reducible refine expG_one 2 ?_ ?_); (· decide +kernel); try simp -implicitDefEqProofs only [go_sem, *])
  ((with_reducible refine enter_pu (ct) ?_ ?_ ?_); (· rfl); (· rfl); try simp -implicitDefEqProofs only [go_sem, *])
  ((with_reducible refine expG_one 3 ?_ ?_); (· decide +kernel); try simp -implicitDefEqProofs only [go_sem, *])
  refine enter_see1 cee (.cons _ _ _ _ (see_dV hn1 hn2 (hHx _)) (.cons _ _ _ _ (see_same rfl) .nil)) rfl rfl ?_
  simp -implicitDefEqProofs only [go_sem, cx, c0]
  (repeat' (first | ((with_reducible first | refine gon ?_ ?_ | refine gos ?_ ?_ | refine cdn ?_ ?_ | refine cds ?_ ?_ | refine gpn ?_ ?_ | refine gps ?_ ?_) <;> intro h <;> (try simp only [dt, df, gi, gt] at h) <;> try simp -implicitDefEqProofs only [go_sem, *]) | ((with_reducible refine And.intro ?_ ?_); (· first | omega | (simp only [List.length_take]; omega)); try simp -implicitDefEqProofs only [go_sem, *]) | first | ((with_reducible refine expG_one 4 ?_ ?_); (· decide +kernel); try simp -implicitDefEqProofs only [go_sem, *]) | ((with_reducible refine expG_end ?_ ?_); (· decide +kernel); try simp -implicitDefEqProofs only [go_sem, *]) | ((with_reducible refine enter_pu (cti) ?_ ?_ ?_); (· rfl); (· rfl); try simp -implicitDefEqProofs only [go_sem, *]) | fail))
  refine enter_see1 cei (.cons _ _ _ _ (see_v _) (.cons _ _ _ _ (see_same rfl) .nil)) rfl rfl ?_
  simp -implicitDefEqProofs only [go_sem, cx, c0]
  (repeat' (first | ((with_reducible first | refine gon ?_ ?_ | refine gos ?_ ?_ | refine cdn ?_ ?_ | refine cds ?_ ?_ | refine gpn ?_ ?_ | refine gps ?_ ?_) <;> intro h <;> (try simp only [dt, df, gi, gt] at h) <;> try simp -implicitDefEqProofs only [go_sem, *]) | ((with_reducible refine And.intro ?_ ?_); (· first | omega | (simp only [List.length_take]; omega)); try simp -implicitDefEqProofs only [go_sem, *]) | fail))
  refine enter_mid 2 (A := [some ⟨5, [eA e]⟩, some ⟨5, [eA g]⟩]) (X0 := dS 0 e) (X1 := dS 0 (markE 1 e)) (B := some ⟨5, [dV 2 n1 n2 e]⟩ :: some ⟨1, vals.map I⟩ :: [some ⟨5, [zA]⟩]) (args' := [dE 0 e, I 1]) (markEngine_c e hm) ?_ rfl dS_mark_len (by rw [dS_len]; exact cl_dS (by omega)) ?_ rfl ?_ ?_ ?_
  · have h : A = [some ⟨5, [eA e]⟩, some ⟨5, [eA g]⟩] ++ dS 2 e := hA
    rw [sh_dS, Nat.add_zero, ← hC, h]
    simp only [List.append_assoc, List.cons_append, List.nil_append]
  · rw [← dS_mark_len (k := 1), dS_len]
    exact cl_dS (by omega)
  · rw [List.map_cons, sh_dE, Nat.add_zero, ← dV_eq hn1 hn2, List.map_cons, List.map_nil, sh_prim]
  · simp only [List.all_cons, List.all_nil, Bool.and_true]
    rw [dS_len]
    exact Bool.and_eq_true_iff.2 ⟨cl_dE (by omega), rfl⟩
  obtain ⟨C2, hC2⟩ : ∃ C2, [some ⟨5, [eA e]⟩, some ⟨5, [eA g]⟩] ++ shS 2 (dS 0 (markE 1 e)) ++ [some ⟨5, [dV 2 n1 n2 e]⟩] = C2 := ⟨_, rfl⟩
  have hn2' : (([some ⟨5, [eA e]⟩, some ⟨5, [eA g]⟩] : Store) ++ shS 2 (dS 0 (markE 1 e))).length = n := by
    have h1 : A = [some ⟨5, [eA e]⟩, some ⟨5, [eA g]⟩] ++ dS 2 e := hA
    rw [← hn, h1, List.length_append, List.length_append, shS_len, dS_mark_len, dS_len, dS_len]
  have hp' : C2.length = p := by
    have h : p = n + 1 := hpn
    rw [← hC2, List.length_append, hn2', h]
    rfl
  have c0' : ∀ T, getO (C2 ++ T) 0 = some ⟨5, [eA e]⟩ := fun T => by rw [← hC2]; rfl
  have c1' : ∀ T, getO (C2 ++ T) 1 = some ⟨5, [eA g]⟩ := fun T => by rw [← hC2]; rfl
  have cv' : ∀ (o : AObj) T, getO (C2 ++ some o :: T) p = some o := fun o T => by rw [← hp']; exact getO_app
  have e3 : ∀ T, [some ⟨5, [eA e]⟩, some ⟨5, [eA g]⟩] ++ shS 2 (dS 0 (markE 1 e)) ++ some ⟨5, [dV 2 n1 n2 e]⟩ :: T = C2 ++ T := fun T => by rw [← hC2]; simp only [List.append_assoc, List.cons_append, List.nil_append]
  obtain ⟨_, hcd, hcm⟩ := hm.low
  have kb : 0 ≤ 1 + (cntE e : Int) ∧ 1 + (cntE e : Int) ≤ 1000000000000000 := by
    have := hm.log
    unfold cntE
    omega
  have k1 : ¬ (1 + (cntE e : Int) + (vals.length : Int) < 0) := by omega
  have k2 : ¬ (1 + (cntE g : Int) < 0) := by omega
  have k3 : ((1 + (cntE g : Int)) != (1 + (cntE g : Int))) = false := by simp
  have hh := heldEngine_fn g hg
  rw [e3]
  clear e3
  simp -implicitDefEqProofs only [go_sem, c0', c1', cv']
  refine enter_mid p (A := C2) (X0 := [some ⟨1, vals.map I⟩]) (X1 := [some ⟨1, (markI (1 + (cntE e : Int)) vals.length).map I⟩]) (B := [some ⟨5, [zA]⟩]) (args' := [.own 0 1 0 vals.length, I (1 + (cntE e : Int))]) (markIntS_c vals _ kb (by omega)) ?_ hp' rfl cl_oI cl_oI rfl ?_ rfl ?_
  · rw [sh_oI]
    simp only [List.append_assoc, List.cons_append, List.nil_append]
  · simp [AV.sh, AV.sh1, AV.sh0]
  rw [sh_oI]
  obtain ⟨v2, hv2⟩ : ∃ v2, (some ⟨1, (markI (1 + (cntE e : Int)) vals.length).map I⟩ : Option AObj) = v2 := ⟨_, rfl⟩
  rw [hv2]
  have bx' : ∀ (c : Option AObj) (o : AObj) T, getO (C2 ++ c :: some o :: T) (p + 1) = some o := fun c o T => getO_app2 (B := []) hp' rfl
  clear hv2
  simp -implicitDefEqProofs only [go_sem, List.append_assoc, List.cons_append, List.nil_append, c0', c1', bx', k1]
  refine enter_see1 ceg (.cons _ _ _ _ (seeG _) (.cons _ _ _ _ (see_same rfl) .nil)) rfl rfl ?_
  simp -implicitDefEqProofs only [go_sem, c0', c1', bx', bnn]
  (repeat' (first | ((with_reducible first | refine gon ?_ ?_ | refine gos ?_ ?_ | refine cdn ?_ ?_ | refine cds ?_ ?_ | refine gpn ?_ ?_ | refine gps ?_ ?_) <;> intro h <;> (try simp only [dt, df, gi, gt] at h) <;> try simp -implicitDefEqProofs only [go_sem, *]) | ((with_reducible refine And.intro ?_ ?_); (· first | omega | (simp only [List.length_take]; omega)); try simp -implicitDefEqProofs only [go_sem, *]) | ((with_reducible refine enter_pu (markZ) ?_ ?_ ?_); (· rfl); (· rfl); try simp -implicitDefEqProofs only [go_sem, *])))
  have e1 : markE 1 g = g := by rw [hgz]; rfl
  have e2 : (1 + (cntE g : Int)) = 1 := by rw [hgz]; rfl
  rw [e1, e2] at hh
  refine enter_see1 hh (.cons _ _ _ _ (seeG _) (.cons _ _ _ _ (see_same rfl) .nil)) rfl rfl ?_
  simp -implicitDefEqProofs only [go_sem, c0', c1', bx']
  (repeat' (first | ((with_reducible first | refine gon ?_ ?_ | refine gos ?_ ?_ | refine cdn ?_ ?_ | refine cds ?_ ?_ | refine gpn ?_ ?_ | refine gps ?_ ?_) <;> intro h <;> (try simp only [dt, df, gi, gt] at h) <;> try simp -implicitDefEqProofs only [go_sem, *]) | ((with_reducible refine And.intro ?_ ?_); (· first | omega | (simp only [List.length_take]; omega)); try simp -implicitDefEqProofs only [go_sem, *]) | fail))
  have cx2 : ∀ (c d : Option AObj) (o : AObj) T, getO (C2 ++ c :: d :: some o :: T) (p + (1 + 1)) = some o := fun c d o T => getO_app3 (B := []) hp' rfl
  have cy2 : ∀ (c d o x : Option AObj) T, (C2 ++ c :: d :: o :: T).set (p + (1 + 1)) x = C2 ++ c :: d :: x :: T := fun c d o x T => set_app3 (B := []) hp' rfl
  ((with_reducible refine enter_pu (ct) ?_ ?_ ?_); (· rfl); (· rfl); try simp -implicitDefEqProofs only [go_sem, *])
  ((with_reducible refine enter_pu (cti) ?_ ?_ ?_); (· rfl); (· rfl); try simp -implicitDefEqProofs only [go_sem, *])
  ((with_reducible refine enter_pu (cI) ?_ ?_ ?_); (· rfl); (· rfl); try simp -implicitDefEqProofs only [go_sem, *])
  simp -implicitDefEqProofs only [go_sem, List.append_assoc, List.cons_append, List.nil_append, c0', c1', bx', cx2, cy2, bnn]
  (repeat' (first | ((with_reducible first | refine gon ?_ ?_ | refine gos ?_ ?_ | refine cdn ?_ ?_ | refine cds ?_ ?_ | refine gpn ?_ ?_ | refine gps ?_ ?_) <;> intro h <;> (try simp only [dt, df, gi, gt] at h) <;> try simp -implicitDefEqProofs only [go_sem, *]) | ((with_reducible refine And.intro ?_ ?_); (· first | omega | (simp only [List.length_take]; omega)); try simp -implicitDefEqProofs only [go_sem, *]) | ((with_reducible refine enter_pu (ceg) ?_ ?_ ?_); (· rfl); (· rfl); try simp -implicitDefEqProofs only [go_sem, *])))
  refine enter_see1 hh (.cons _ _ _ _ (seeG _) (.cons _ _ _ _ (see_same rfl) .nil)) rfl rfl ?_
  simp -implicitDefEqProofs only [go_sem, true_and]
  (repeat' (first | ((with_reducible first | refine gon ?_ ?_ | refine gos ?_ ?_ | refine cdn ?_ ?_ | refine cds ?_ ?_ | refine gpn ?_ ?_ | refine gps ?_ ?_) <;> intro h <;> (try simp only [dt, df, gi, gt] at h) <;> try simp -implicitDefEqProofs only [go_sem, *]) | ((with_reducible refine And.intro ?_ ?_); (· first | omega | (simp only [List.length_take]; omega)); try simp -implicitDefEqProofs only [go_sem, *]) | fail))
  all_goals exact fin_pu rfl rfl
theorem FnExactChangeLoad_out (e : Eng) (tx : Int) (page : Int) (vals : List Int) (hv : vals.length ≤ 1048576) (hs : e.small) (h0 : szE e 1048576 < 0) : Fn1 Tryz.prog 3 [eA e, I tx, I page, ints vals] (Bo true) := by
  have cz := szEngine_fn e 1048576 (by omega) hs
  refine fn1_of Tryz.func3 rfl rfl ?_
  have hvl : ¬ (1048576 : Int) < (vals.length : Int) := by omega
  simp -implicitDefEqProofs only [go_sem, Tryz.f3, h0, hvl]
  (repeat' (first | ((with_reducible first | refine gon ?_ ?_ | refine gos ?_ ?_ | refine cdn ?_ ?_ | refine cds ?_ ?_ | refine gpn ?_ ?_ | refine gps ?_ ?_) <;> intro h <;> (try simp only [dt, df, gi, gt] at h) <;> try simp -implicitDefEqProofs only [go_sem, *]) | ((with_reducible refine And.intro ?_ ?_); (· first | omega | (simp only [List.length_take]; omega)); try simp -implicitDefEqProofs only [go_sem, *]) | ((with_reducible refine enter_pu (cz) ?_ ?_ ?_); (· rfl); (· rfl); try simp -implicitDefEqProofs only [go_sem, *])))
  exact fin_pu rfl rfl
theorem ExactChangeLoad_law (e : Eng) (hs : e.small) (tx : Int) (page : Int) (vals : List Int) (hvs : vals.length < 4611686018427387904) : Fn1 Tryz.prog 3 [eA e, I tx, I page, ints vals] (Bo true) := by
  by_cases hv : (1048576 : Int) < (vals.length : Int)
  · refine fn1_of Tryz.func3 rfl rfl ?_
    simp -implicitDefEqProofs only [go_sem, Tryz.f3, hv]
    exact fin_pu rfl rfl
  have hv : vals.length ≤ 1048576 := by omega
  by_cases h0 : szE e 1048576 < 0
  · exact FnExactChangeLoad_out e tx page vals hv hs h0
  have cS := ChangeLoadS_fn e tx page vals hs (by omega)
  have cI := ChangeLoadI_fn e tx page vals hs (by omega)
  rcases hok : okE e with _ | _
  · have hf : loadD e tx page vals = (zeroE, false) := by unfold loadD; rw [if_neg (by rw [hok]; decide)]
    rw [hf] at cS cI
    exact FnExactChangeLoad_no e zeroE false tx page vals hv hs h0 rfl cS cI (ChangeLoadI_none e tx page vals hok hs)
  · have hi := inv_of_ok hok
    have co := ChangeLoadI_own e tx page vals hok hs (by omega)
    have hf : loadD e tx page vals = e.load tx page vals := by unfold loadD; rw [if_pos hok]
    have hg : (e.load tx page vals).1.mid := inv_mid (load_inv hi tx page vals)
    rw [hf] at cS cI
    obtain ⟨⟨q, b⟩, hq⟩ : ∃ q, e.load tx page vals = q := ⟨_, rfl⟩
    rw [hq] at cS cI co hg
    exact FnExactChangeLoad_ok e q b tx page vals hv hs h0 hg cS cI co
end
end Go.Proofs.YtfcnajhanjhonaaGreat.Am
end
