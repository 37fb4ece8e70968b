/- Lemmas and walks: Gm Gn Go Ha Ob Hb Hc Hd Ia Ja Jb Jc Jd. No conditions. -/
import Derived.Test.YtcpfcpfikinbmaaGreatJ5
import Derived.Test.YtcpfcpfikinbmaaGreatJ2
import Derived.Laws.Strings
section
set_option linter.unusedVariables false
set_option linter.unusedSimpArgs false
set_option maxRecDepth 100000
set_option maxHeartbeats 8000000
namespace Go.Proofs.YtcpfcpfikinbmaaGreat.Am
open Go Go.RowKit Go.Proofs
open Nat renaming reduceAdd → z1, reduceSub → z2, reduceMul → z3, reduceLT → z4, reduceLeDiff → z5, reduceEqDiff → z6
open Int renaming reduceBEq → z7, reduceBNe → z8, reduceNeg → z9, reduceSub → za, reduceLE → zb, reduceLT → zc
attribute [local congr] opsP_congr codeP_congr AWP_congr afterR_congr preP_congr afterPre_congr gPre_congr gOps_congr condP_congr stepE_congr
attribute [local go_sem] ty_int ty_bool ty_str ty_u8 ty_ints ty_bytes ty_page ty_pages ty_lpage ty_lpages ty_rec ty_recs ty_lrec ty_lrecs ty_eng ty_leng
attribute [local go_sem] true_and and_true beq_true' beq_false' toNat_cast Int.natCast_nonneg Bool.not_not Bool.not_true Bool.not_false decide_true decide_false Bool.or_false Bool.false_or Bool.or_true Bool.true_or Bool.and_false Bool.false_and Nat.zero_add Int.toNat_of_nonneg wrap_succ wrap_m1 wrap_nat succ_m1 cast0 succ_pos' succ_ne' succ_bne' ge_iff_le gt_iff_lt if_true if_false
attribute [local go_sem] slt_r slt_I slt_p ty_rd ty_ev
theorem ty_evs : tiOf Tryz.prog 115 = some ⟨false, [.slice none 0 0], 24, .slice 133⟩ := by kernel_rfl
attribute [local go_sem] ty_evs
/-- An engine of which all is its own. -/
abbrev eL (i j k : Nat) (e : Eng) : AV := .agg [.own i 3 0 5, .own j 3 0 5, .own k 8 0 e.log.length, I e.safe, Bo e.down]
abbrev oL (l : List Rc) : Option AObj := some ⟨8, l.map rA⟩
@[go_sem] theorem rho22 {a b n : Nat} : rho [a, b] n 2 = n := by simp [rho]
@[go_sem] theorem rho12 {a n : Nat} : rho [a] n 2 = n + 1 := by simp [rho]
@[go_sem] theorem rho13 {a n : Nat} : rho [a] n 3 = n + 2 := by simp [rho]
@[go_sem] theorem rnO_r {ρ : Nat → Nat} {l : List Rc} : rnO ρ (some ⟨8, l.map rA⟩) = some ⟨8, l.map rA⟩ := by
  unfold rnO
  simp only [Option.map_some, List.map_map]
  congr 2
@[go_sem] theorem rn1_any {ρ : Nat → Nat} : AV.rn1 ρ .any = .any := rfl
@[go_sem] theorem putS_nil' {ρ : Nat → Nat} {o : Option AObj} {S T : Store} : putS ρ [] (o :: S) T = T ++ (rnO ρ o :: S.map (rnO ρ)) := by simp [putS]
@[go_sem] theorem scT_two {i j : Nat} {tm : List AV} : scT [i, j] tm = tm.map (AV.sc [i, j]) := rfl
@[go_sem] theorem scS_two {i j : Nat} {S : Store} : scS [i, j] S = S.map (Option.map fun o => ⟨o.z, o.es.map (AV.sc1 [i, j])⟩) := rfl
@[go_sem] theorem sc_ref2 {i j k z o s : Nat} : AV.sc [i, j] (.ref k z o s) = if k = i then .junk else if k = j then .junk else .ref k z o s := by
  by_cases h : k = i <;> by_cases h' : k = j <;> simp [AV.sc, AV.sc1, AV.sc0, h, h']
@[go_sem] theorem sc_own2 {i j k z o s : Nat} : AV.sc [i, j] (.own k z o s) = if k = i then .junk else if k = j then .junk else .own k z o s := by
  by_cases h : k = i <;> by_cases h' : k = j <;> simp [AV.sc, AV.sc1, AV.sc0, h, h']
@[go_sem] theorem sc0_own2 {i j k z o s : Nat} : AV.sc0 [i, j] (.own k z o s) = if k = i then .junk else if k = j then .junk else .own k z o s := by
  by_cases h : k = i <;> by_cases h' : k = j <;> simp [AV.sc0, h, h']
@[go_sem] theorem sc0_ref2 {i j k z o s : Nat} : AV.sc0 [i, j] (.ref k z o s) = if k = i then .junk else if k = j then .junk else .ref k z o s := by
  by_cases h : k = i <;> by_cases h' : k = j <;> simp [AV.sc0, h, h']
@[go_sem] theorem sc1_own2 {i j k z o s : Nat} : AV.sc1 [i, j] (.own k z o s) = if k = i then .junk else if k = j then .junk else .own k z o s := by
  by_cases h : k = i <;> by_cases h' : k = j <;> simp [AV.sc1, AV.sc0, h, h']
@[go_sem] theorem sc1_ev {mv : List Nat} {l : List Ev} : (l.map evA).map (AV.sc1 mv) = l.map evA := by rw [List.map_map]; rfl
@[go_sem] theorem pur_ev {l : List Ev} : (l.map evA).all AV.pur = true := by simp [AV.pur, AV.pur0]
@[go_sem] theorem pur_ev1 {a b c d n : Int} {v : List Int} : AV.pur (.agg [I a, I b, I c, I d, I n, ints v]) = true := rfl
@[go_sem] theorem app_ev {l : List Ev} {a b c d n : Int} {v : List Int} : l.map evA ++ [.agg [I a, I b, I c, I d, I n, ints v]] = (l ++ [(⟨a, b, c, d, n, v⟩ : Ev)]).map evA := by simp
theorem slt_ev {n : Nat} {l : List Ev} : ((l.map evA).all fun x => x.cells.all (AV.lt1 n)) = true := by simp [AV.cells, AV.lt1, AV.lt0]
theorem a2_r (K : List Nat) (l : List Rc) : All2 (Rn1 K) (l.map rA) (l.map rA) := by
  induction l with
  | nil => exact .nil
  | cons x l ih => exact .cons _ _ _ _ (.agg _ _ (a2_same rfl)) ih
theorem rnT_eL {K : List Nat} {a b c i j k n : Nat} {s : Int} {d : Bool} (h0 : K[a]? = some i) (h1 : K[b]? = some j) (h2 : K[c]? = some k) : RnT K (.agg [.own i 3 0 5, .own j 3 0 5, .own k 8 0 n, I s, Bo d]) (.agg [.own a 3 0 5, .own b 3 0 5, .own c 8 0 n, I s, Bo d]) :=
  .of _ _ (.agg _ _ (.cons _ _ _ _ (.own _ _ _ _ _ h0) (.cons _ _ _ _ (.own _ _ _ _ _ h1) (.cons _ _ _ _ (.own _ _ _ _ _ h2) (.cons _ _ _ _ (.same _ rfl) (.cons _ _ _ _ (.same _ rfl) .nil))))))
theorem hm01 {n : Nat} {K : List Nat} {mv : List Nat} (hn : n = 2) : ∀ i, i < n → [0, 1].contains i = false → K[i]? = some i ∧ mv.contains i = false := by
  subst hn
  intro i hi h
  have hi2 : i = 0 ∨ i = 1 := by omega
  rcases hi2 with rfl | rfl <;> cases h
theorem l11Copy_o (e : Eng) (hi : Inv e) : AFn1 Tryz.prog 64 [eX 0 1 e] (sO e) (eL 0 1 2 e) [oP e.disk, oP e.mem, oL e.log] [0, 1] := by
  have hd5 := hi.disk.len
  have hm5 := hi.mem.len
  have hlen := hi.len
  have hc1 := CopyPages_c e.disk hi.disk.sz
  have hc2 := CopyPages_c e.mem hi.mem.sz
  refine afn1_of Tryz.func64 rfl rfl ?_
  simp -implicitDefEqProofs only [go_sem, z1, z2, z3, z4, z5, z6, z7, z8, z9, za, zb, zc, ↓reduceIte, Tryz.f64]
  refine cp_drawG (id := 1) 16 (fun S => getO S 2 = some ⟨5, [eX 0 1 e]⟩) mixed rfl ?_
  ((refine expG_get 0 (.ref 2 5 0 0) rfl ?_ ?_ ?_ ?_ ?_); (· decide +kernel); (· decide +kernel); (· rfl); (· (intro S hS0; simp -implicitDefEqProofs only [go_sem, z1, z2, z3, z4, z5, z6, z7, z8, z9, za, zb, zc, ↓reduceIte, hS0, *])); try simp -implicitDefEqProofs only [go_sem, z1, z2, z3, z4, z5, z6, z7, z8, z9, za, zb, zc, ↓reduceIte, List.set_cons_succ, List.set_cons_zero])
  ((refine expG_get 1 (.own 0 3 0 5) rfl ?_ ?_ ?_ ?_ ?_); (· decide +kernel); (· decide +kernel); (· rfl); (· (intro S hS0; simp -implicitDefEqProofs only [go_sem, z1, z2, z3, z4, z5, z6, z7, z8, z9, za, zb, zc, ↓reduceIte, hS0, *])); try simp -implicitDefEqProofs only [go_sem, z1, z2, z3, z4, z5, z6, z7, z8, z9, za, zb, zc, ↓reduceIte, List.set_cons_succ, List.set_cons_zero])
  ((refine expG_get 3 (.ref 2 5 0 1) rfl ?_ ?_ ?_ ?_ ?_); (· decide +kernel); (· decide +kernel); (· rfl); (· (intro S hS0; simp -implicitDefEqProofs only [go_sem, z1, z2, z3, z4, z5, z6, z7, z8, z9, za, zb, zc, ↓reduceIte, hS0, *])); try simp -implicitDefEqProofs only [go_sem, z1, z2, z3, z4, z5, z6, z7, z8, z9, za, zb, zc, ↓reduceIte, List.set_cons_succ, List.set_cons_zero])
  ((refine expG_get 4 (.own 1 3 0 5) rfl ?_ ?_ ?_ ?_ ?_); (· decide +kernel); (· decide +kernel); (· rfl); (· (intro S hS0; simp -implicitDefEqProofs only [go_sem, z1, z2, z3, z4, z5, z6, z7, z8, z9, za, zb, zc, ↓reduceIte, hS0, *])); try simp -implicitDefEqProofs only [go_sem, z1, z2, z3, z4, z5, z6, z7, z8, z9, za, zb, zc, ↓reduceIte, List.set_cons_succ, List.set_cons_zero])
  ((refine expG_get 7 (.ref 2 5 0 2) rfl ?_ ?_ ?_ ?_ ?_); (· decide +kernel); (· decide +kernel); (· rfl); (· (intro S hS0; simp -implicitDefEqProofs only [go_sem, z1, z2, z3, z4, z5, z6, z7, z8, z9, za, zb, zc, ↓reduceIte, hS0, *])); try simp -implicitDefEqProofs only [go_sem, z1, z2, z3, z4, z5, z6, z7, z8, z9, za, zb, zc, ↓reduceIte, List.set_cons_succ, List.set_cons_zero])
  ((refine expG_get 8 (recs e.log) rfl ?_ ?_ ?_ ?_ ?_); (· decide +kernel); (· decide +kernel); (· rfl); (· (intro S hS0; simp -implicitDefEqProofs only [go_sem, z1, z2, z3, z4, z5, z6, z7, z8, z9, za, zb, zc, ↓reduceIte, hS0, *])); try simp -implicitDefEqProofs only [go_sem, z1, z2, z3, z4, z5, z6, z7, z8, z9, za, zb, zc, ↓reduceIte, List.set_cons_succ, List.set_cons_zero])
  ((refine expG_get 10 (.ref 2 5 0 3) rfl ?_ ?_ ?_ ?_ ?_); (· decide +kernel); (· decide +kernel); (· rfl); (· (intro S hS0; simp -implicitDefEqProofs only [go_sem, z1, z2, z3, z4, z5, z6, z7, z8, z9, za, zb, zc, ↓reduceIte, hS0, *])); try simp -implicitDefEqProofs only [go_sem, z1, z2, z3, z4, z5, z6, z7, z8, z9, za, zb, zc, ↓reduceIte, List.set_cons_succ, List.set_cons_zero])
  ((refine expG_get 11 (I e.safe) rfl ?_ ?_ ?_ ?_ ?_); (· decide +kernel); (· decide +kernel); (· rfl); (· (intro S hS0; simp -implicitDefEqProofs only [go_sem, z1, z2, z3, z4, z5, z6, z7, z8, z9, za, zb, zc, ↓reduceIte, hS0, *])); try simp -implicitDefEqProofs only [go_sem, z1, z2, z3, z4, z5, z6, z7, z8, z9, za, zb, zc, ↓reduceIte, List.set_cons_succ, List.set_cons_zero])
  ((refine expG_get 12 (.ref 2 5 0 4) rfl ?_ ?_ ?_ ?_ ?_); (· decide +kernel); (· decide +kernel); (· rfl); (· (intro S hS0; simp -implicitDefEqProofs only [go_sem, z1, z2, z3, z4, z5, z6, z7, z8, z9, za, zb, zc, ↓reduceIte, hS0, *])); try simp -implicitDefEqProofs only [go_sem, z1, z2, z3, z4, z5, z6, z7, z8, z9, za, zb, zc, ↓reduceIte, List.set_cons_succ, List.set_cons_zero])
  ((refine expG_get 13 (Bo e.down) rfl ?_ ?_ ?_ ?_ ?_); (· decide +kernel); (· decide +kernel); (· rfl); (· (intro S hS0; simp -implicitDefEqProofs only [go_sem, z1, z2, z3, z4, z5, z6, z7, z8, z9, za, zb, zc, ↓reduceIte, hS0, *])); try simp -implicitDefEqProofs only [go_sem, z1, z2, z3, z4, z5, z6, z7, z8, z9, za, zb, zc, ↓reduceIte, List.set_cons_succ, List.set_cons_zero])
  ((with_reducible refine expG_two 2 6 ?_ ?_ ?_); (· decide +kernel); all_goals (try simp -implicitDefEqProofs only [go_sem, z1, z2, z3, z4, z5, z6, z7, z8, z9, za, zb, zc, ↓reduceIte, *]))
  · ((with_reducible refine enter_at1 [0] (M2 := []) (hc1) (by decide) ?_ ?_ rfl ?_); (· repeat (first | exact Keeps.nil | (refine Keeps.cons _ _ _ _ _ rfl rfl ?_ ?_; (· first | exact a2_p _ _ | exact a2_1 rfl | exact a2_I _ _)))); (· repeat (first | exact All2.nil | (refine All2.cons _ _ _ _ ?_ ?_; (· first | exact rnT_eX rfl rfl | exact rnT_prim | exact rnT_sl | exact rnT_ref rfl | exact rnT_agg rfl | exact rnT_own rfl | exact rnT_eX5 rfl rfl)))); try simp -implicitDefEqProofs only [go_sem, z1, z2, z3, z4, z5, z6, z7, z8, z9, za, zb, zc, ↓reduceIte, *])
    ((with_reducible refine expG_two 5 6 ?_ ?_ ?_); (· decide +kernel); all_goals (try simp -implicitDefEqProofs only [go_sem, z1, z2, z3, z4, z5, z6, z7, z8, z9, za, zb, zc, ↓reduceIte, *]))
    · ((with_reducible refine enter_at1 [1] (M2 := []) (hc2) (by decide) ?_ ?_ rfl ?_); (· repeat (first | exact Keeps.nil | (refine Keeps.cons _ _ _ _ _ rfl rfl ?_ ?_; (· first | exact a2_p _ _ | exact a2_1 rfl | exact a2_I _ _)))); (· repeat (first | exact All2.nil | (refine All2.cons _ _ _ _ ?_ ?_; (· first | exact rnT_eX rfl rfl | exact rnT_prim | exact rnT_sl | exact rnT_ref rfl | exact rnT_agg rfl | exact rnT_own rfl | exact rnT_eX5 rfl rfl)))); try simp -implicitDefEqProofs only [go_sem, z1, z2, z3, z4, z5, z6, z7, z8, z9, za, zb, zc, ↓reduceIte, *])
      ((with_reducible refine expG_one 6 ?_ ?_); (· decide +kernel); try simp -implicitDefEqProofs only [go_sem, z1, z2, z3, z4, z5, z6, z7, z8, z9, za, zb, zc, ↓reduceIte, *])
      (repeat' (first | ((with_reducible first | refine gon ?_ ?_ | refine gos ?_ ?_ | refine cdn ?_ ?_ | refine cds ?_ ?_ | refine gpn ?_ ?_ | refine gps ?_ ?_) <;> intro h <;> (try simp only [dt, df, gi, gt] at h) <;> try simp -implicitDefEqProofs only [go_sem, z1, z2, z3, z4, z5, z6, z7, z8, z9, za, zb, zc, ↓reduceIte, *]) | ((with_reducible refine And.intro ?_ ?_); (· first | omega | (simp only [List.length_take]; omega)); try simp -implicitDefEqProofs only [go_sem, z1, z2, z3, z4, z5, z6, z7, z8, z9, za, zb, zc, ↓reduceIte, *]) | first | ((refine expG_new 9 rfl ?_ ?_); (· decide +kernel); simp -implicitDefEqProofs only [go_sem, z1, z2, z3, z4, z5, z6, z7, z8, z9, za, zb, zc, ↓reduceIte, *]) | ((with_reducible refine expG_one 14 ?_ ?_); (· decide +kernel); try simp -implicitDefEqProofs only [go_sem, z1, z2, z3, z4, z5, z6, z7, z8, z9, za, zb, zc, ↓reduceIte, *]) | ((with_reducible refine expG_one 15 ?_ ?_); (· decide +kernel); try simp -implicitDefEqProofs only [go_sem, z1, z2, z3, z4, z5, z6, z7, z8, z9, za, zb, zc, ↓reduceIte, *]) | ((with_reducible refine expG_end ?_ ?_); (· decide +kernel); try simp -implicitDefEqProofs only [go_sem, z1, z2, z3, z4, z5, z6, z7, z8, z9, za, zb, zc, ↓reduceIte, *])))
      exact fin_move [4, 5, 7] [0, 1] (by simp) rfl (by decide) (keep3 (o3 := ⟨8, e.log.map rA⟩) rfl rfl rfl (a2_p _ _) (a2_p _ _) (a2_r _ _)) (hm01 rfl) (rnT_eL rfl rfl rfl) ⟨rfl, rfl, rfl⟩
    · ((with_reducible refine expG_one 5 ?_ ?_); (· decide +kernel); try simp -implicitDefEqProofs only [go_sem, z1, z2, z3, z4, z5, z6, z7, z8, z9, za, zb, zc, ↓reduceIte, *])
      ((with_reducible refine enter_at1 [1] (M2 := []) (hc2) (by decide) ?_ ?_ rfl ?_); (· repeat (first | exact Keeps.nil | (refine Keeps.cons _ _ _ _ _ rfl rfl ?_ ?_; (· first | exact a2_p _ _ | exact a2_1 rfl | exact a2_I _ _)))); (· repeat (first | exact All2.nil | (refine All2.cons _ _ _ _ ?_ ?_; (· first | exact rnT_eX rfl rfl | exact rnT_prim | exact rnT_sl | exact rnT_ref rfl | exact rnT_agg rfl | exact rnT_own rfl | exact rnT_eX5 rfl rfl)))); try simp -implicitDefEqProofs only [go_sem, z1, z2, z3, z4, z5, z6, z7, z8, z9, za, zb, zc, ↓reduceIte, *])
      (repeat' (first | ((with_reducible first | refine gon ?_ ?_ | refine gos ?_ ?_ | refine cdn ?_ ?_ | refine cds ?_ ?_ | refine gpn ?_ ?_ | refine gps ?_ ?_) <;> intro h <;> (try simp only [dt, df, gi, gt] at h) <;> try simp -implicitDefEqProofs only [go_sem, z1, z2, z3, z4, z5, z6, z7, z8, z9, za, zb, zc, ↓reduceIte, *]) | ((with_reducible refine And.intro ?_ ?_); (· first | omega | (simp only [List.length_take]; omega)); try simp -implicitDefEqProofs only [go_sem, z1, z2, z3, z4, z5, z6, z7, z8, z9, za, zb, zc, ↓reduceIte, *]) | first | ((refine expG_new 9 rfl ?_ ?_); (· decide +kernel); simp -implicitDefEqProofs only [go_sem, z1, z2, z3, z4, z5, z6, z7, z8, z9, za, zb, zc, ↓reduceIte, *]) | ((with_reducible refine expG_one 14 ?_ ?_); (· decide +kernel); try simp -implicitDefEqProofs only [go_sem, z1, z2, z3, z4, z5, z6, z7, z8, z9, za, zb, zc, ↓reduceIte, *]) | ((with_reducible refine expG_one 15 ?_ ?_); (· decide +kernel); try simp -implicitDefEqProofs only [go_sem, z1, z2, z3, z4, z5, z6, z7, z8, z9, za, zb, zc, ↓reduceIte, *]) | ((with_reducible refine expG_end ?_ ?_); (· decide +kernel); try simp -implicitDefEqProofs only [go_sem, z1, z2, z3, z4, z5, z6, z7, z8, z9, za, zb, zc, ↓reduceIte, *])))
      exact fin_move [4, 6, 7] [0, 1] (by simp) rfl (by decide) (keep3 (o3 := ⟨8, e.log.map rA⟩) rfl rfl rfl (a2_p _ _) (a2_p _ _) (a2_r _ _)) (hm01 rfl) (rnT_eL rfl rfl rfl) ⟨rfl, rfl, rfl⟩
  · ((with_reducible refine expG_one 2 ?_ ?_); (· decide +kernel); try simp -implicitDefEqProofs only [go_sem, z1, z2, z3, z4, z5, z6, z7, z8, z9, za, zb, zc, ↓reduceIte, *])
    ((with_reducible refine enter_at1 [0] (M2 := []) (hc1) (by decide) ?_ ?_ rfl ?_); (· repeat (first | exact Keeps.nil | (refine Keeps.cons _ _ _ _ _ rfl rfl ?_ ?_; (· first | exact a2_p _ _ | exact a2_1 rfl | exact a2_I _ _)))); (· repeat (first | exact All2.nil | (refine All2.cons _ _ _ _ ?_ ?_; (· first | exact rnT_eX rfl rfl | exact rnT_prim | exact rnT_sl | exact rnT_ref rfl | exact rnT_agg rfl | exact rnT_own rfl | exact rnT_eX5 rfl rfl)))); try simp -implicitDefEqProofs only [go_sem, z1, z2, z3, z4, z5, z6, z7, z8, z9, za, zb, zc, ↓reduceIte, *])
    ((with_reducible refine expG_one 5 ?_ ?_); (· decide +kernel); try simp -implicitDefEqProofs only [go_sem, z1, z2, z3, z4, z5, z6, z7, z8, z9, za, zb, zc, ↓reduceIte, *])
    ((with_reducible refine enter_at1 [1] (M2 := []) (hc2) (by decide) ?_ ?_ rfl ?_); (· repeat (first | exact Keeps.nil | (refine Keeps.cons _ _ _ _ _ rfl rfl ?_ ?_; (· first | exact a2_p _ _ | exact a2_1 rfl | exact a2_I _ _)))); (· repeat (first | exact All2.nil | (refine All2.cons _ _ _ _ ?_ ?_; (· first | exact rnT_eX rfl rfl | exact rnT_prim | exact rnT_sl | exact rnT_ref rfl | exact rnT_agg rfl | exact rnT_own rfl | exact rnT_eX5 rfl rfl)))); try simp -implicitDefEqProofs only [go_sem, z1, z2, z3, z4, z5, z6, z7, z8, z9, za, zb, zc, ↓reduceIte, *])
    (repeat' (first | ((with_reducible first | refine gon ?_ ?_ | refine gos ?_ ?_ | refine cdn ?_ ?_ | refine cds ?_ ?_ | refine gpn ?_ ?_ | refine gps ?_ ?_) <;> intro h <;> (try simp only [dt, df, gi, gt] at h) <;> try simp -implicitDefEqProofs only [go_sem, z1, z2, z3, z4, z5, z6, z7, z8, z9, za, zb, zc, ↓reduceIte, *]) | ((with_reducible refine And.intro ?_ ?_); (· first | omega | (simp only [List.length_take]; omega)); try simp -implicitDefEqProofs only [go_sem, z1, z2, z3, z4, z5, z6, z7, z8, z9, za, zb, zc, ↓reduceIte, *]) | first | ((refine expG_new 9 rfl ?_ ?_); (· decide +kernel); simp -implicitDefEqProofs only [go_sem, z1, z2, z3, z4, z5, z6, z7, z8, z9, za, zb, zc, ↓reduceIte, *]) | ((with_reducible refine expG_one 14 ?_ ?_); (· decide +kernel); try simp -implicitDefEqProofs only [go_sem, z1, z2, z3, z4, z5, z6, z7, z8, z9, za, zb, zc, ↓reduceIte, *]) | ((with_reducible refine expG_one 15 ?_ ?_); (· decide +kernel); try simp -implicitDefEqProofs only [go_sem, z1, z2, z3, z4, z5, z6, z7, z8, z9, za, zb, zc, ↓reduceIte, *]) | ((with_reducible refine expG_end ?_ ?_); (· decide +kernel); try simp -implicitDefEqProofs only [go_sem, z1, z2, z3, z4, z5, z6, z7, z8, z9, za, zb, zc, ↓reduceIte, *])))
    exact fin_move [5, 6, 7] [0, 1] (by simp) rfl (by decide) (keep3 (o3 := ⟨8, e.log.map rA⟩) rfl rfl rfl (a2_p _ _) (a2_p _ _) (a2_r _ _)) (hm01 rfl) (rnT_eL rfl rfl rfl) ⟨rfl, rfl, rfl⟩
theorem l11Pages_own : Fn Tryz.prog 165 [] (fun r S => r = .own 0 3 0 5 ∧ S = [oP newPs]) := by
  refine fn_of Tryz.func165 rfl rfl ?_
  simp -implicitDefEqProofs only [go_sem, z1, z2, z3, z4, z5, z6, z7, z8, z9, za, zb, zc, ↓reduceIte, Tryz.f165]
  refine cp_loop (fun i : Nat => ⟨(nilS :: .own 0 3 0 i :: I (i : Int) :: .any :: .any :: .any :: .any :: .any :: .any :: .any :: .any :: .any :: .any :: []), [some ⟨3, (newPs.take i).map pA⟩], [0]⟩) (fun i => i ≤ 5) (fun i => 5 - i) 0 ?_ ?_ ?_
  · simp
  · refine WkN.trans (wk_tm ?_) (wk_mv (by simp))
    repeat (first | exact WL.nil | (with_reducible refine WL.any _ _ _ ?_) | (with_reducible refine WL.same _ _ _ ?_) | (refine WL.eq _ _ _ _ rfl ?_))
  · rintro i hi
    have hb' : i < 4611686018427387904 := by omega
    by_cases hil : i < 5
    · have hl1 : (i : Int) < 5 := by omega
      simp -implicitDefEqProofs only [go_sem, z1, z2, z3, z4, z5, z6, z7, z8, z9, za, zb, zc, ↓reduceIte, hl1]
      (repeat' (first | ((with_reducible first | refine gon ?_ ?_ | refine gos ?_ ?_ | refine cdn ?_ ?_ | refine cds ?_ ?_ | refine gpn ?_ ?_ | refine gps ?_ ?_) <;> intro h <;> (try simp only [dt, df, gi, gt] at h) <;> try simp -implicitDefEqProofs only [go_sem, z1, z2, z3, z4, z5, z6, z7, z8, z9, za, zb, zc, ↓reduceIte, *]) | ((with_reducible refine And.intro ?_ ?_); (· first | omega | (simp only [List.length_take]; omega)); try simp -implicitDefEqProofs only [go_sem, z1, z2, z3, z4, z5, z6, z7, z8, z9, za, zb, zc, ↓reduceIte, *]) | ((with_reducible refine enter_pu (PageNew_fn) ?_ ?_ ?_); (· rfl); (· rfl); try simp -implicitDefEqProofs only [go_sem, z1, z2, z3, z4, z5, z6, z7, z8, z9, za, zb, zc, ↓reduceIte, *])))
      have e : List.take i newPs ++ [newP] = List.take (i + 1) newPs := by
        have := take_at newPs i (by simpa [newPs] using hil)
        rw [at_newPs hil] at this
        exact this
      refine ⟨⟨by simp [newPs]; omega, by omega⟩, ?_⟩
      rw [e]
      refine ⟨i + 1, by omega, by omega, ?_⟩
      refine WkN.trans (WkN.trans (wk_tm ?_) (wk_trunc (S := [some ⟨3, (newPs.take (i + 1)).map pA⟩]) (Nat.le_refl _) rfl (by first | rfl | (simp only [sltB, List.all_cons, List.all_nil, slt_p, slt_I, slt_r, Bool.and_true]; done) | (simp only [sltB, List.all_cons, List.all_nil, slt_p, slt_I, slt_r, Bool.and_true]; rfl)))) (wk_mv (by simp)); repeat (first | exact WL.nil | (with_reducible refine WL.any _ _ _ ?_) | (with_reducible refine WL.same _ _ _ ?_) | (refine WL.eq _ _ _ _ rfl ?_))
    · have hl1 : ¬ (i : Int) < 5 := by omega
      have e : i = 5 := by omega
      simp -implicitDefEqProofs only [go_sem, z1, z2, z3, z4, z5, z6, z7, z8, z9, za, zb, zc, ↓reduceIte, hl1]
      subst e
      exact fin_keep [0] (by simp) rfl (keep1 rfl (a2_p _ _)) (rt_own _ rfl) ⟨rfl, rfl⟩
theorem EngineNew_own : Fn Tryz.prog 144 [] (fun r S => r = eX 0 1 newE ∧ S = sO newE) := by
  refine fn_of Tryz.func144 rfl rfl ?_
  simp -implicitDefEqProofs only [go_sem, z1, z2, z3, z4, z5, z6, z7, z8, z9, za, zb, zc, ↓reduceIte, Tryz.f144]
  (repeat' (first | ((with_reducible first | refine gon ?_ ?_ | refine gos ?_ ?_ | refine cdn ?_ ?_ | refine cds ?_ ?_ | refine gpn ?_ ?_ | refine gps ?_ ?_) <;> intro h <;> (try simp only [dt, df, gi, gt] at h) <;> try simp -implicitDefEqProofs only [go_sem, z1, z2, z3, z4, z5, z6, z7, z8, z9, za, zb, zc, ↓reduceIte, *]) | ((with_reducible refine And.intro ?_ ?_); (· first | omega | (simp only [List.length_take]; omega)); try simp -implicitDefEqProofs only [go_sem, z1, z2, z3, z4, z5, z6, z7, z8, z9, za, zb, zc, ↓reduceIte, *]) | ((with_reducible refine enter_fn (l11Pages_own) ?_ ?_); (· rfl); try simp -implicitDefEqProofs only [go_sem, z1, z2, z3, z4, z5, z6, z7, z8, z9, za, zb, zc, ↓reduceIte, *])))
  exact fin_drop [1, 2] [] (by simp) rfl (by decide) (keep2 (o1 := ⟨3, newPs.map pA⟩) (o2 := ⟨3, newPs.map pA⟩) rfl rfl (a2_p _ _) (a2_p _ _)) (fun i hi => absurd hi (Nat.not_lt_zero _)) (.of _ _ (rd_eX (k := 3) (e := newE) rfl rfl (by decide) (by decide) rfl rfl)) ⟨⟨rfl, rfl⟩, rfl⟩
theorem keep4 {a b c d : Nat} {S : Store} {o1 o2 o3 o4 : AObj} (h1 : getO S a = some o1) (h2 : getO S b = some o2) (h3 : getO S c = some o3) (h4 : getO S d = some o4) (e1 : All2 (Rn1 [a, b, c, d]) o1.es o1.es) (e2 : All2 (Rn1 [a, b, c, d]) o2.es o2.es) (e3 : All2 (Rn1 [a, b, c, d]) o3.es o3.es) (e4 : All2 (Rn1 [a, b, c, d]) o4.es o4.es) :
    ∀ (j k : Nat), [a, b, c, d][j]? = some k → ∃ (o o' : AObj), getO S k = some o ∧ [some o1, some o2, some o3, some o4][j]? = some (some o') ∧ o'.z = o.z ∧ All2 (Rn1 [a, b, c, d]) o.es o'.es := by
  intro j k hj
  rcases j with _ | _ | _ | _ | j
  · simp at hj; subst hj; exact ⟨o1, o1, h1, rfl, rfl, e1⟩
  · simp at hj; subst hj; exact ⟨o2, o2, h2, rfl, rfl, e2⟩
  · simp at hj; subst hj; exact ⟨o3, o3, h3, rfl, rfl, e3⟩
  · simp at hj; subst hj; exact ⟨o4, o4, h4, rfl, rfl, e4⟩
  · simp at hj
theorem hdR {K : List Nat} {S : Store} {mv : List Nat} {o : AObj} (h : getO S 0 = some o) (hn : o.es ≠ []) (m0 : mv.contains 0 = false) (hK : K[0]? = some 0) : ∀ i, i < 1 → mv.contains i = false ∧ (∃ o, getO S i = some o ∧ o.es ≠ []) ∧ (([] : List Nat).contains i = false → K[i]? = some i) := by
  intro i hi
  obtain rfl : i = 0 := by omega
  exact ⟨m0, ⟨_, h, hn⟩, fun _ => hK⟩
theorem rd_eL {K : List Nat} {S : Store} {n0 a b c i j k n : Nat} {s : Int} {d : Bool} (h0 : K[a]? = some i) (h1 : K[b]? = some j) (h2 : K[c]? = some k) : Rd1 K S n0 (.agg [.own i 3 0 5, .own j 3 0 5, .own k 8 0 n, I s, Bo d]) (.agg [.own a 3 0 5, .own b 3 0 5, .own c 8 0 n, I s, Bo d]) :=
  .agg _ _ (.cons _ _ _ _ (.rn _ _ (.own _ _ _ _ _ h0)) (.cons _ _ _ _ (.rn _ _ (.own _ _ _ _ _ h1)) (.cons _ _ _ _ (.rn _ _ (.own _ _ _ _ _ h2)) (.cons _ _ _ _ (.rn _ _ (.same _ rfl)) (.cons _ _ _ _ (.rn _ _ (.same _ rfl)) .nil)))))
theorem l71Play_c (l : List Int) (p : Nat) (hC : Cod l) (hp : p < 800000) : AFnX Tryz.prog 126 [.ref 0 2 0 0] [oR l p] (fun q : Eng × Nat => PInv q.1 ∧ p ≤ q.2 ∧ q.2 ≤ p + 800) (fun q => .tup [.any, eL 1 2 3 q.1]) (fun q => [oR l q.2, oP q.1.disk, oP q.1.mem, oL q.1.log]) [] := by
  refine afnx_of Tryz.func126 rfl rfl ?_
  simp -implicitDefEqProofs only [go_sem, z1, z2, z3, z4, z5, z6, z7, z8, z9, za, zb, zc, ↓reduceIte, Tryz.f126]
  (repeat' (first | ((with_reducible first | refine gon ?_ ?_ | refine gos ?_ ?_ | refine cdn ?_ ?_ | refine cds ?_ ?_ | refine gpn ?_ ?_ | refine gps ?_ ?_) <;> intro h <;> (try simp only [dt, df, gi, gt] at h) <;> try simp -implicitDefEqProofs only [go_sem, z1, z2, z3, z4, z5, z6, z7, z8, z9, za, zb, zc, ↓reduceIte, *]) | ((with_reducible refine And.intro ?_ ?_); (· first | omega | (simp only [List.length_take]; omega)); try simp -implicitDefEqProofs only [go_sem, z1, z2, z3, z4, z5, z6, z7, z8, z9, za, zb, zc, ↓reduceIte, *]) | first | ((with_reducible refine enter_fn (EngineNew_own) ?_ ?_); (· rfl); try simp -implicitDefEqProofs only [go_sem, z1, z2, z3, z4, z5, z6, z7, z8, z9, za, zb, zc, ↓reduceIte, *]) | ((with_reducible refine pick_at hC ?_ ?_ ?_); (· omega); (· first | decide | omega); rintro k hk; try simp -implicitDefEqProofs only [go_sem, z1, z2, z3, z4, z5, z6, z7, z8, z9, za, zb, zc, ↓reduceIte, *])))
  have hk' : 0 ≤ k ∧ k < 37 := hk
  obtain ⟨m0, hm0, rfl⟩ : ∃ m0 : Nat, m0 ≤ 36 ∧ k = (m0 : Int) := ⟨k.toNat, by omega, by omega⟩
  refine cp_loop (fun q : Nat × Eng × Nat × List Ev => ⟨(.ref 0 2 0 0 :: .any :: nilS :: .ref 1 5 0 0 :: .ref 4 5 0 0 :: .own 5 6 0 q.2.2.2.length :: I (q.1 : Int) :: .any :: .any :: .any :: .any :: .any :: .any :: .any :: .any :: .any :: .any :: .any :: .any :: .any :: .any :: .any :: .any :: .any :: .any :: .any :: .any :: .any :: .any :: []), [oR l q.2.2.1, some ⟨5, [.agg [.prim (.slice none 0 0), .prim (.slice none 0 0), .prim (.slice none 0 0), I 0, Bo false]]⟩, oP q.2.1.disk, oP q.2.1.mem, some ⟨5, [eX 2 3 q.2.1]⟩, some ⟨6, q.2.2.2.map evA⟩], [5, 3]⟩)
    (fun q => q.1 ≤ 36 ∧ PInv q.2.1 ∧ p ≤ q.2.2.1 ∧ q.2.2.1 + 20 * q.1 ≤ p + 730 ∧ q.2.2.2.length + q.1 ≤ 36) (fun q => q.1) (m0, newE, p + 1, []) ?_ ?_ ?_
  · exact ⟨hm0, newE_inv, by simp only; omega, by simp only; omega, by simp only [List.length_nil]; omega⟩
  · refine WkN.trans (wk_tm ?_) (wk_mv (by simp))
    repeat (first | exact WL.nil | (with_reducible refine WL.any _ _ _ ?_) | (with_reducible refine WL.same _ _ _ ?_) | (refine WL.eq _ _ _ _ rfl ?_))
  · rintro ⟨m, c, p', vs⟩ ⟨hm, hic, hp1, hp2, hvl⟩
    simp only at hm hic hp1 hp2 hvl
    have hi := hic.toInv
    have hcd := hi.disk.len
    have hcm := hi.mem.len
    have hcl := hi.len
    rcases m with _ | m
    · have hcp := l11Copy_o c hi
      simp -implicitDefEqProofs only [go_sem, z1, z2, z3, z4, z5, z6, z7, z8, z9, za, zb, zc, ↓reduceIte, true_and]
      (repeat' (first | ((with_reducible first | refine gon ?_ ?_ | refine gos ?_ ?_ | refine cdn ?_ ?_ | refine cds ?_ ?_ | refine gpn ?_ ?_ | refine gps ?_ ?_) <;> intro h <;> (try simp only [dt, df, gi, gt] at h) <;> try simp -implicitDefEqProofs only [go_sem, z1, z2, z3, z4, z5, z6, z7, z8, z9, za, zb, zc, ↓reduceIte, *]) | ((with_reducible refine And.intro ?_ ?_); (· first | omega | (simp only [List.length_take]; omega)); try simp -implicitDefEqProofs only [go_sem, z1, z2, z3, z4, z5, z6, z7, z8, z9, za, zb, zc, ↓reduceIte, *]) | ((with_reducible refine enter_at1 [2, 3] (M2 := [2, 3]) (hcp) (by decide) ?_ ?_ rfl ?_); (· repeat (first | exact Keeps.nil | (refine Keeps.cons _ _ _ _ _ rfl rfl ?_ ?_; (· first | exact a2_p _ _ | exact a2_1 rfl | exact a2_I _ _)))); (· repeat (first | exact All2.nil | (refine All2.cons _ _ _ _ ?_ ?_; (· first | exact rnT_eX rfl rfl | exact rnT_prim | exact rnT_sl | exact rnT_ref rfl | exact rnT_agg rfl | exact rnT_own rfl | exact rnT_eX5 rfl rfl)))); try simp -implicitDefEqProofs only [go_sem, z1, z2, z3, z4, z5, z6, z7, z8, z9, za, zb, zc, ↓reduceIte, *])))
      exact fin_drop [0, 2, 3, 6] [] (by simp) rfl (by decide) (keep4 (o1 := ⟨2, [.agg [bts l, I (p' : Int)]]⟩) (o2 := ⟨3, c.disk.map pA⟩) (o3 := ⟨3, c.mem.map pA⟩) (o4 := ⟨8, c.log.map rA⟩) rfl rfl rfl rfl (a2_1 rfl) (a2_p _ _) (a2_p _ _) (a2_r _ _)) (hdR (o := ⟨2, [.agg [bts l, I (p' : Int)]]⟩) rfl (by simp) rfl rfl)
        (.tup _ _ (.cons _ _ _ _ (.any _) (.cons _ _ _ _ (rd_eL (a := 1) (b := 2) (c := 3) rfl rfl rfl) .nil))) ⟨(c, p'), ⟨hic, hp1, by simp only; omega⟩, rfl, rfl, rfl⟩
    · have hmb : m < 4611686018427387904 := by omega
      simp -implicitDefEqProofs only [go_sem, z1, z2, z3, z4, z5, z6, z7, z8, z9, za, zb, zc, ↓reduceIte, true_and]
      (repeat' (first | ((with_reducible first | refine gon ?_ ?_ | refine gos ?_ ?_ | refine cdn ?_ ?_ | refine cds ?_ ?_ | refine gpn ?_ ?_ | refine gps ?_ ?_) <;> intro h <;> (try simp only [dt, df, gi, gt] at h) <;> try simp -implicitDefEqProofs only [go_sem, z1, z2, z3, z4, z5, z6, z7, z8, z9, za, zb, zc, ↓reduceIte, *]) | ((with_reducible refine And.intro ?_ ?_); (· first | omega | (simp only [List.length_take]; omega)); try simp -implicitDefEqProofs only [go_sem, z1, z2, z3, z4, z5, z6, z7, z8, z9, za, zb, zc, ↓reduceIte, *]) | ((with_reducible refine enter_at [0, 2, 3] (M2 := []) (l71Event_c l p' c hC (by omega) hi) (by decide) ?_ ?_ rfl ?_); (· repeat (first | exact Keeps.nil | (refine Keeps.cons _ _ _ _ _ rfl rfl ?_ ?_; (· first | exact a2_p _ _ | exact a2_1 rfl | exact a2_I _ _)))); (· repeat (first | exact All2.nil | (refine All2.cons _ _ _ _ ?_ ?_; (· first | exact rnT_eX rfl rfl | exact rnT_prim | exact rnT_sl | exact rnT_ref rfl | exact rnT_agg rfl | exact rnT_own rfl | exact rnT_eX5 rfl rfl)))); rintro ⟨v, p2⟩ ⟨hv, h1, h2⟩; try simp -implicitDefEqProofs only [go_sem, z1, z2, z3, z4, z5, z6, z7, z8, z9, za, zb, zc, ↓reduceIte, *])))
      simp only at hv h1 h2
      have hdo := l22Do_c c v hi hv
      (repeat' (first | ((with_reducible first | refine gon ?_ ?_ | refine gos ?_ ?_ | refine cdn ?_ ?_ | refine cds ?_ ?_ | refine gpn ?_ ?_ | refine gps ?_ ?_) <;> intro h <;> (try simp only [dt, df, gi, gt] at h) <;> try simp -implicitDefEqProofs only [go_sem, z1, z2, z3, z4, z5, z6, z7, z8, z9, za, zb, zc, ↓reduceIte, *]) | ((with_reducible refine And.intro ?_ ?_); (· first | omega | (simp only [List.length_take]; omega)); try simp -implicitDefEqProofs only [go_sem, z1, z2, z3, z4, z5, z6, z7, z8, z9, za, zb, zc, ↓reduceIte, *]) | ((with_reducible refine enter_at1 [2, 3] (M2 := [3]) (hdo) (by decide) ?_ ?_ rfl ?_); (· repeat (first | exact Keeps.nil | (refine Keeps.cons _ _ _ _ _ rfl rfl ?_ ?_; (· first | exact a2_p _ _ | exact a2_1 rfl | exact a2_I _ _)))); (· repeat (first | exact All2.nil | (refine All2.cons _ _ _ _ ?_ ?_; (· first | exact rnT_eX rfl rfl | exact rnT_prim | exact rnT_sl | exact rnT_ref rfl | exact rnT_agg rfl | exact rnT_own rfl | exact rnT_eX5 rfl rfl)))); try simp -implicitDefEqProofs only [go_sem, z1, z2, z3, z4, z5, z6, z7, z8, z9, za, zb, zc, ↓reduceIte, *])))
      refine ⟨(m, c.evDo v, p2, vs ++ [v]), ⟨by simp only; omega, evDo_inv hic v, by simp only; omega, by simp only; omega, by simp only [List.length_append, List.length_singleton]; omega⟩, by simp only; omega, ?_⟩
      simp only [List.length_append, List.length_singleton]
      refine WkN.trans (WkN.trans (wk_tm ?_) (wk_trunc (S := [oR l p2, some ⟨5, [.agg [.prim (.slice none 0 0), .prim (.slice none 0 0), .prim (.slice none 0 0), I 0, Bo false]]⟩, oP (c.evDo v).disk, oP (c.evDo v).mem, some ⟨5, [eX 2 3 (c.evDo v)]⟩, some ⟨6, (vs ++ [v]).map evA⟩]) (Nat.le_refl _) rfl ?_)) (wk_mv (by simp))
      rotate_left
      · simp only [sltB, List.all_cons, List.all_nil, slt_p, slt_ev, Bool.and_true]
        rfl
      repeat (first | exact WL.nil | (with_reducible refine WL.any _ _ _ ?_) | (with_reducible refine WL.same _ _ _ ?_) | (refine WL.eq _ _ _ _ rfl ?_))
end Go.Proofs.YtcpfcpfikinbmaaGreat.Am
end
section
set_option linter.unusedVariables false
set_option linter.unusedSimpArgs false
set_option maxRecDepth 100000
set_option maxHeartbeats 8000000
namespace Go.Proofs.YtcpfcpfikinbmaaGreat.Am
open Go Go.RowKit Go.Proofs
open Nat renaming reduceAdd → z1, reduceSub → z2, reduceMul → z3, reduceLT → z4, reduceLeDiff → z5, reduceEqDiff → z6
open Int renaming reduceBEq → z7, reduceBNe → z8, reduceNeg → z9, reduceSub → za, reduceLE → zb, reduceLT → zc
attribute [local congr] opsP_congr codeP_congr AWP_congr afterR_congr preP_congr afterPre_congr gPre_congr gOps_congr condP_congr stepE_congr
attribute [local go_sem] ty_int ty_bool ty_str ty_u8 ty_ints ty_bytes ty_page ty_pages ty_lpage ty_lpages ty_rec ty_recs ty_lrec ty_lrecs ty_eng ty_leng
attribute [local go_sem] true_and and_true beq_true' beq_false' toNat_cast Int.natCast_nonneg Bool.not_not Bool.not_true Bool.not_false decide_true decide_false Bool.or_false Bool.false_or Bool.or_true Bool.true_or Bool.and_false Bool.false_and Nat.zero_add Int.toNat_of_nonneg wrap_succ wrap_m1 wrap_nat succ_m1 cast0 succ_pos' succ_ne' succ_bne' ge_iff_le gt_iff_lt if_true if_false
attribute [local go_sem] slt_r slt_I slt_p ty_rd ty_ev ty_evs
@[go_sem] theorem buildO_2 {tm : List AV} {b : Bool} {z0 z1 : Value} {n : Nat} {parts : List (Nat × Operand)} : buildO tm (some ⟨b, [z0, z1], n, .struct [0, 1]⟩) parts = fillV (fillR [0, 1] tm [.prim z0, .prim z1] parts) := rfl
theorem at_reader {f : FuncId} {l : List Int} {p : Nat} {X : Type} {J : X → Prop} {R : X → AV} {pos : X → Nat} {d : Tmp} {tm : List AV} {T : Store} {mv : List Nat} {K : St → Prop} (h : AFnX Tryz.prog f [.ref 0 2 0 0] [oR l p] J R (fun q => [oR l (pos q)]) [])
    (hR : ∀ q ρ, (R q).rn ρ = R q) (hk : ∀ q, J q → K ⟨tm.set d (R q), oR l (pos q) :: T, mv⟩) : afterR Tryz.prog (.enter f [.ref 0 2 0 0]) (some d) ⟨tm, oR l p :: T, mv⟩ K := by
  refine enter_at [0] (M2 := []) h (by decide) (.cons _ _ _ _ _ rfl rfl (a2_1 rfl) .nil) (.cons _ _ _ _ (rnT_ref rfl) .nil) rfl fun q hq => ?_
  have := hk q hq
  rw [hR]
  simpa only [scT_nil, scS_nil, putS_cons, putS_nil, List.set_cons_zero, rnO_agg, rn0_sl, rn0_prim, List.map_cons, List.map_nil, List.nil_append] using this
theorem fin_log {l : List Int} {lg : List Rc} {p p' off len : Nat} {T : Store} {mv : List Nat} (ho : getO (oR l p' :: T) 3 = some ⟨8, lg.map rA⟩) (hl : off + len ≤ lg.length) (hg : lg.length ≤ 151) (m0 : mv.contains 0 = false) (h1 : p ≤ p') (h2 : p' ≤ p + 850) :
    Fin 1 (.own 3 8 off len) (oR l p' :: T) mv (fun r S' mv => ∃ x : List Rc × Nat, (x.1.length ≤ 151 ∧ p ≤ x.2 ∧ x.2 ≤ p + 850) ∧ r = recs x.1 ∧ S' = [oR l x.2] ∧ mv = []) :=
  fin_drop [0] [] (by simp) rfl (by decide) (keep1 (ob := ⟨2, [.agg [bts l, I (p' : Int)]]⟩) rfl (a2_1 rfl)) (hdR (o := ⟨2, [.agg [bts l, I (p' : Int)]]⟩) rfl (by simp) m0 rfl)
    (.of _ _ (.of _ _ (.drop 3 8 off len _ ((lg.drop off).take len |>.map rD) (by decide) (by decide) ho rfl (by simpa using hl) (by simp only [← List.map_drop, ← List.map_take]; exact isDs_r _)))) ⟨((lg.drop off).take len, p'), ⟨by simp; omega, h1, h2⟩, rfl, rfl, rfl⟩
theorem l71Log_c (l : List Int) (p : Nat) (hC : Cod l) (hp : p < 700000) : AFnX Tryz.prog 128 [.ref 0 2 0 0] [oR l p] (fun q : List Rc × Nat => q.1.length ≤ 151 ∧ p ≤ q.2 ∧ q.2 ≤ p + 850) (fun q => recs q.1) (fun q => [oR l q.2]) [] := by
  refine afnx_of Tryz.func128 rfl rfl ?_
  simp -implicitDefEqProofs only [go_sem, z1, z2, z3, z4, z5, z6, z7, z8, z9, za, zb, zc, ↓reduceIte, Tryz.f128]
  (repeat' (first | ((with_reducible first | refine gon ?_ ?_ | refine gos ?_ ?_ | refine cdn ?_ ?_ | refine cds ?_ ?_ | refine gpn ?_ ?_ | refine gps ?_ ?_) <;> intro h <;> (try simp only [dt, df, gi, gt] at h) <;> try simp -implicitDefEqProofs only [go_sem, z1, z2, z3, z4, z5, z6, z7, z8, z9, za, zb, zc, ↓reduceIte, *]) | ((with_reducible refine And.intro ?_ ?_); (· first | omega | (simp only [List.length_take]; omega)); try simp -implicitDefEqProofs only [go_sem, z1, z2, z3, z4, z5, z6, z7, z8, z9, za, zb, zc, ↓reduceIte, *]) | ((with_reducible refine enter_at [0] (M2 := []) (l71Play_c l p hC (by omega)) (by decide) ?_ ?_ rfl ?_); (· repeat (first | exact Keeps.nil | (refine Keeps.cons _ _ _ _ _ rfl rfl ?_ ?_; (· first | exact a2_p _ _ | exact a2_1 rfl | exact a2_I _ _)))); (· repeat (first | exact All2.nil | (refine All2.cons _ _ _ _ ?_ ?_; (· first | exact rnT_eX rfl rfl | exact rnT_prim | exact rnT_sl | exact rnT_ref rfl | exact rnT_agg rfl | exact rnT_own rfl | exact rnT_eX5 rfl rfl)))); rintro ⟨c, p1⟩ ⟨hic, hp1, hp2⟩; try simp -implicitDefEqProofs only [go_sem, z1, z2, z3, z4, z5, z6, z7, z8, z9, za, zb, zc, ↓reduceIte, *])))
  simp only at hic hp1 hp2
  have hcl := hic.toInv.len
  (repeat' (first | ((with_reducible first | refine gon ?_ ?_ | refine gos ?_ ?_ | refine cdn ?_ ?_ | refine cds ?_ ?_ | refine gpn ?_ ?_ | refine gps ?_ ?_) <;> intro h <;> (try simp only [dt, df, gi, gt] at h) <;> try simp -implicitDefEqProofs only [go_sem, z1, z2, z3, z4, z5, z6, z7, z8, z9, za, zb, zc, ↓reduceIte, *]) | ((with_reducible refine And.intro ?_ ?_); (· first | omega | (simp only [List.length_take]; omega)); try simp -implicitDefEqProofs only [go_sem, z1, z2, z3, z4, z5, z6, z7, z8, z9, za, zb, zc, ↓reduceIte, *]) | first | ((with_reducible refine pick_at hC ?_ ?_ ?_); (· omega); (· first | decide | omega); rintro k1 hk1; try simp -implicitDefEqProofs only [go_sem, z1, z2, z3, z4, z5, z6, z7, z8, z9, za, zb, zc, ↓reduceIte, *]) | ((with_reducible refine at_reader (l71Rec_c l _ hC (by omega)) (fun _ _ => rfl) ?_); rintro ⟨x, p2⟩ ⟨h1, h2⟩; simp only at *; try simp -implicitDefEqProofs only [go_sem, z1, z2, z3, z4, z5, z6, z7, z8, z9, za, zb, zc, ↓reduceIte, *])))
  all_goals try (refine fin_log (lg := c.log) rfl ?_ ?_ rfl ?_ ?_ <;> omega)
  · refine fin_log (lg := c.log ++ [x]) rfl ?_ ?_ rfl ?_ ?_ <;> first | omega | (simp <;> omega)
  rename_i k0 hk0
  have hk0' : 0 ≤ k0 ∧ k0 < c.log.length := hk0
  refine ⟨by omega, by omega, ?_⟩
  refine fin_log rfl ?_ ?_ rfl ?_ ?_ <;> first | omega | (simp <;> omega)
theorem l6Open_fn (l : List Int) (hl : l.length < 4611686018427387904) (hb : Byt l) : Fn Tryz.prog 43 [bts l] (fun r S => ∃ l', Cod l' ∧ r = .ref 0 2 0 0 ∧ S = [oR l' 0]) := by
  refine fn_of Tryz.func43 rfl rfl ?_
  simp -implicitDefEqProofs only [go_sem, z1, z2, z3, z4, z5, z6, z7, z8, z9, za, zb, zc, ↓reduceIte, Tryz.f43]
  (repeat' (first | ((with_reducible first | refine gon ?_ ?_ | refine gos ?_ ?_ | refine cdn ?_ ?_ | refine cds ?_ ?_ | refine gpn ?_ ?_ | refine gps ?_ ?_) <;> intro h <;> (try simp only [dt, df, gi, gt] at h) <;> try simp -implicitDefEqProofs only [go_sem, z1, z2, z3, z4, z5, z6, z7, z8, z9, za, zb, zc, ↓reduceIte, *]) | ((with_reducible refine And.intro ?_ ?_); (· first | omega | (simp only [List.length_take]; omega)); try simp -implicitDefEqProofs only [go_sem, z1, z2, z3, z4, z5, z6, z7, z8, z9, za, zb, zc, ↓reduceIte, *]) | fail))
  · exact fin_same ⟨⟨l.take 2000, ⟨fun k hk => by rw [at_take l 2000 (by simp at hk; omega)]; exact hb k (by simp at hk; omega), by simp; omega⟩, rfl, rfl⟩, rfl⟩
  · exact fin_same ⟨⟨l, ⟨hb, by omega⟩, rfl, rfl⟩, rfl⟩
end Go.Proofs.YtcpfcpfikinbmaaGreat.Am
end
section
set_option linter.unusedVariables false
set_option linter.unusedSimpArgs false
set_option maxRecDepth 100000
set_option maxHeartbeats 8000000
namespace Go.Proofs.YtcpfcpfikinbmaaGreat.Am
open Go Go.RowKit Go.Proofs
open Nat renaming reduceAdd → z1, reduceSub → z2, reduceMul → z3, reduceLT → z4, reduceLeDiff → z5, reduceEqDiff → z6
open Int renaming reduceBEq → z7, reduceBNe → z8, reduceNeg → z9, reduceSub → za, reduceLE → zb, reduceLT → zc
attribute [local congr] opsP_congr codeP_congr AWP_congr afterR_congr preP_congr afterPre_congr gPre_congr gOps_congr condP_congr stepE_congr
attribute [local go_sem] ty_int ty_bool ty_str ty_u8 ty_ints ty_bytes ty_page ty_pages ty_lpage ty_lpages ty_rec ty_recs ty_lrec ty_lrecs ty_eng ty_leng
attribute [local go_sem] true_and and_true beq_true' beq_false' toNat_cast Int.natCast_nonneg Bool.not_not Bool.not_true Bool.not_false decide_true decide_false Bool.or_false Bool.false_or Bool.or_true Bool.true_or Bool.and_false Bool.false_and Nat.zero_add Int.toNat_of_nonneg wrap_succ wrap_m1 wrap_nat succ_m1 cast0 succ_pos' succ_ne' succ_bne' ge_iff_le gt_iff_lt if_true if_false
attribute [local go_sem] slt_r slt_I slt_p ty_rd ty_ev ty_evs
@[go_sem] theorem rho0 {n i : Nat} : rho [] n i = n + i := by simp [rho]
theorem at_readerI {i : Nat} {f : FuncId} {l : List Int} {p : Nat} {X : Type} {J : X → Prop} {R : X → AV} {pos : X → Nat} {d : Tmp} {tm : List AV} {T : Store} {mv : List Nat} {K : St → Prop} (hi : T[i]? = some (oR l p)) (h : AFnX Tryz.prog f [.ref 0 2 0 0] [oR l p] J R (fun q => [oR l (pos q)]) [])
    (hR : ∀ q ρ, (R q).rn ρ = R q) (hk : ∀ q, J q → K ⟨tm.set d (R q), T.set i (oR l (pos q)), mv⟩) : afterR Tryz.prog (.enter f [.ref i 2 0 0]) (some d) ⟨tm, T, mv⟩ K := by
  refine enter_at [i] (M2 := []) h (by simp) (.cons _ _ _ _ _ hi rfl (a2_1 rfl) .nil) (.cons _ _ _ _ (rnT_ref rfl) .nil) rfl fun q hq => ?_
  have := hk q hq
  rw [hR]
  simpa only [scT_nil, scS_nil, putS_cons, putS_nil, rnO_agg, rn0_sl, rn0_prim, List.map_cons, List.map_nil, List.nil_append] using this
theorem pick_atI {i : Nat} {l : List Int} {p : Nat} {n : Int} {d : Tmp} {tm : List AV} {T : Store} {mv : List Nat} {K : St → Prop} (h : Cod l) (hi : T[i]? = some (oR l p)) (hp : p < 1000000) (hn : 1 ≤ n) (hk : ∀ k, PickJ n k → K ⟨tm.set d (I k), T.set i (oR l (p + 1)), mv⟩) :
    afterR Tryz.prog (.enter 45 [.ref i 2 0 0, I n]) (some d) ⟨tm, T, mv⟩ K := by
  refine enter_at [i] (M2 := []) (pick_c' h hp hn) (by simp) (.cons _ _ _ _ _ hi rfl (a2_1 rfl) .nil) (.cons _ _ _ _ (rnT_ref rfl) (.cons _ _ _ _ rnT_prim .nil)) rfl fun k hk' => ?_
  have := hk k hk'
  simpa only [scT_nil, scS_nil, putS_cons, putS_nil, rn_prim, rnO_agg, rn0_sl, rn0_prim, List.map_cons, List.map_nil, List.nil_append] using this
/-- What a drawn engine is like. -/
structure Eng.dr (e : Eng) : Prop where
  disk : e.disk.length = 5
  mem : e.mem.length = 5
  log : e.log.length ≤ 152
  dv : ∀ p ∈ e.disk, p.vals.length ≤ 3
  mv : ∀ p ∈ e.mem, p.vals.length ≤ 3
theorem rgs_vals {ps : List Pg} (h : Rgs ps) : ∀ p ∈ ps, p.vals.length ≤ 3 := fun p hp => by
  obtain ⟨k, hk, rfl⟩ := mem_at hp
  have := (h.rg k (by rw [h.len] at hk; exact hk)).len
  omega
theorem dr_of {e : Eng} (h : Inv e) : e.dr := ⟨h.disk.len, h.mem.len, by have := h.len; omega, rgs_vals h.disk, rgs_vals h.mem⟩
theorem rd_pgs {K : List Nat} {S : Store} {n0 i : Nat} {ps : List Pg} (hi : n0 ≤ i) (hK : i ∉ K) (ho : getO S i = some ⟨3, ps.map pA⟩) (hl : ps.length = 5) : Rd0 K S n0 (.own i 3 0 5) (pgs ps) :=
  .drop i 3 0 5 _ _ hi hK ho rfl (by simp [hl]) (by have := isDs_p ps; simpa [List.take_of_length_le, hl] using this)
theorem rd_recs {K : List Nat} {S : Store} {n0 i n : Nat} {l : List Rc} (hi : n0 ≤ i) (hK : i ∉ K) (ho : getO S i = some ⟨8, l.map rA⟩) (hl : n = l.length) : Rd0 K S n0 (.own i 8 0 n) (recs l) := dropR hi hK ho hl
theorem fin_eng {l : List Int} {T : Store} {p p' : Nat} {a b : List Pg} {c : List Rc} {s : Int} {d : Bool} {x : AV} (h2 : getO (oR l p' :: T) 2 = some ⟨3, a.map pA⟩) (h3 : getO (oR l p' :: T) 3 = some ⟨3, b.map pA⟩) (hx : Rd0 [0] (oR l p' :: T) 1 x (recs c)) (hd : (⟨a, b, c, s, d⟩ : Eng).dr) (q1 : p ≤ p') (q2 : p' ≤ p + 1800) :
    Fin 1 (.agg [.own 2 3 0 5, .own 3 3 0 5, x, I s, Bo d]) (oR l p' :: T) [] (fun r S' mv => ∃ y : Eng × Nat, (y.1.dr ∧ p ≤ y.2 ∧ y.2 ≤ p + 1800) ∧ r = eA y.1 ∧ S' = [oR l y.2] ∧ mv = []) :=
  fin_drop [0] [] (by simp) rfl (by decide) (keep1 (ob := ⟨2, [.agg [bts l, I (p' : Int)]]⟩) rfl (a2_1 rfl)) (hdR (o := ⟨2, [.agg [bts l, I (p' : Int)]]⟩) rfl (by simp) rfl rfl)
    (.of _ _ (.agg _ _ (.cons _ _ _ _ (rd_pgs (by decide) (by decide) h2 hd.disk) (.cons _ _ _ _ (rd_pgs (by decide) (by decide) h3 hd.mem) (.cons _ _ _ _ hx (.cons _ _ _ _ (.rn _ _ (.same _ rfl)) (.cons _ _ _ _ (.rn _ _ (.same _ rfl)) .nil))))))) ⟨(⟨a, b, c, s, d⟩, p'), ⟨hd, q1, q2⟩, rfl, rfl, rfl⟩
theorem dr_mem {a b : List Pg} {c : List Rc} {s s' : Int} {d d' : Bool} (h : (⟨a, b, c, s, d⟩ : Eng).dr) (k : Nat) {q : Pg} (hq : q.vals.length ≤ 3) : (⟨a, b.set k q, c, s', d'⟩ : Eng).dr :=
  ⟨h.disk, by have := h.mem; simpa using this, h.log, h.dv, fun p hp => by
    rcases List.mem_or_eq_of_mem_set hp with h1 | rfl
    · exact h.mv p h1
    · exact hq⟩
theorem dr_disk {a b : List Pg} {c : List Rc} {s s' : Int} {d d' : Bool} (h : (⟨a, b, c, s, d⟩ : Eng).dr) (k : Nat) {q : Pg} (hq : q.vals.length ≤ 3) : (⟨a.set k q, b, c, s', d'⟩ : Eng).dr :=
  ⟨by have := h.disk; simpa using this, h.mem, h.log, fun p hp => by
    rcases List.mem_or_eq_of_mem_set hp with h1 | rfl
    · exact h.dv p h1
    · exact hq, h.mv⟩
theorem dr_log {a b : List Pg} {c c' : List Rc} {s s' : Int} {d d' : Bool} (h : (⟨a, b, c, s, d⟩ : Eng).dr) (hc : c'.length ≤ 152) : (⟨a, b, c', s', d'⟩ : Eng).dr := ⟨h.disk, h.mem, hc, h.dv, h.mv⟩
theorem l72Engine_c (l : List Int) (p : Nat) (hC : Cod l) (hp : p < 600000) : AFnX Tryz.prog 85 [.ref 0 2 0 0] [oR l p] (fun q : Eng × Nat => q.1.dr ∧ p ≤ q.2 ∧ q.2 ≤ p + 1800) (fun q => eA q.1) (fun q => [oR l q.2]) [] := by
  refine afnx_of Tryz.func85 rfl rfl ?_
  simp -implicitDefEqProofs only [go_sem, z1, z2, z3, z4, z5, z6, z7, z8, z9, za, zb, zc, ↓reduceIte, Tryz.f85]
  (repeat' (first | ((with_reducible first | refine gon ?_ ?_ | refine gos ?_ ?_ | refine cdn ?_ ?_ | refine cds ?_ ?_ | refine gpn ?_ ?_ | refine gps ?_ ?_) <;> intro h <;> (try simp only [dt, df, gi, gt] at h) <;> try simp -implicitDefEqProofs only [go_sem, z1, z2, z3, z4, z5, z6, z7, z8, z9, za, zb, zc, ↓reduceIte, *]) | ((with_reducible refine And.intro ?_ ?_); (· first | omega | (simp only [List.length_take]; omega)); try simp -implicitDefEqProofs only [go_sem, z1, z2, z3, z4, z5, z6, z7, z8, z9, za, zb, zc, ↓reduceIte, *]) | ((with_reducible refine enter_at [0] (M2 := []) (l71Play_c l p hC (by omega)) (by decide) ?_ ?_ rfl ?_); (· repeat (first | exact Keeps.nil | (refine Keeps.cons _ _ _ _ _ rfl rfl ?_ ?_; (· first | exact a2_p _ _ | exact a2_1 rfl | exact a2_I _ _)))); (· repeat (first | exact All2.nil | (refine All2.cons _ _ _ _ ?_ ?_; (· first | exact rnT_eX rfl rfl | exact rnT_prim | exact rnT_sl | exact rnT_ref rfl | exact rnT_agg rfl | exact rnT_own rfl | exact rnT_eX5 rfl rfl)))); rintro ⟨⟨ca, cb, cc, cs, cd⟩, p1⟩ ⟨hic, hp1, hp2⟩; try simp -implicitDefEqProofs only [go_sem, z1, z2, z3, z4, z5, z6, z7, z8, z9, za, zb, zc, ↓reduceIte, *])))
  simp only at hic hp1 hp2
  have hcl : cc.length ≤ 150 := hic.toInv.len
  have hdr := dr_of hic.toInv
  have ha5 : ca.length = 5 := hdr.disk
  have hb5 : cb.length = 5 := hdr.mem
  have hwr : IntKind.i64.wrap ((cc.length : Int) + 2) = (cc.length : Int) + 2 := wrap_ok (by omega) (by omega)
  (repeat' (first | ((with_reducible first | refine gon ?_ ?_ | refine gos ?_ ?_ | refine cdn ?_ ?_ | refine cds ?_ ?_ | refine gpn ?_ ?_ | refine gps ?_ ?_) <;> intro h <;> (try simp only [dt, df, gi, gt] at h) <;> try simp -implicitDefEqProofs only [go_sem, z1, z2, z3, z4, z5, z6, z7, z8, z9, za, zb, zc, ↓reduceIte, *]) | ((with_reducible refine And.intro ?_ ?_); (· first | omega | (simp only [List.length_take]; omega)); try simp -implicitDefEqProofs only [go_sem, z1, z2, z3, z4, z5, z6, z7, z8, z9, za, zb, zc, ↓reduceIte, *]) | first | ((with_reducible refine pick_at hC ?_ ?_ ?_); (· omega); (· first | decide | omega); rintro k1 hk1; try simp -implicitDefEqProofs only [go_sem, z1, z2, z3, z4, z5, z6, z7, z8, z9, za, zb, zc, ↓reduceIte, *]) | ((with_reducible refine at_reader (l71Log_c l _ hC (by omega)) (fun _ _ => rfl) ?_); rintro ⟨x, p2⟩ ⟨h0, h1, h2⟩; simp only at *; try simp -implicitDefEqProofs only [go_sem, z1, z2, z3, z4, z5, z6, z7, z8, z9, za, zb, zc, ↓reduceIte, *])))
  all_goals try (refine fin_eng rfl rfl (rd_recs (by decide) (by decide) rfl rfl) (dr_log hdr (by omega)) ?_ ?_ <;> omega)
  · refine cp_drawG (id := 6) 8 (fun S => getO S 5 = some ⟨5, [eL 2 3 4 ⟨ca, cb, cc, cs, cd⟩]⟩) mixed rfl ?_
    ((refine expG_get 0 (.ref 5 5 0 1) rfl ?_ ?_ ?_ ?_ ?_); (· decide +kernel); (· decide +kernel); (· rfl); (· (intro S hS0; simp -implicitDefEqProofs only [go_sem, z1, z2, z3, z4, z5, z6, z7, z8, z9, za, zb, zc, ↓reduceIte, hS0, *])); try simp -implicitDefEqProofs only [go_sem, z1, z2, z3, z4, z5, z6, z7, z8, z9, za, zb, zc, ↓reduceIte, List.set_cons_succ, List.set_cons_zero])
    ((refine expG_get 1 (.own 3 3 0 5) rfl ?_ ?_ ?_ ?_ ?_); (· decide +kernel); (· decide +kernel); (· rfl); (· (intro S hS0; simp -implicitDefEqProofs only [go_sem, z1, z2, z3, z4, z5, z6, z7, z8, z9, za, zb, zc, ↓reduceIte, hS0, *])); try simp -implicitDefEqProofs only [go_sem, z1, z2, z3, z4, z5, z6, z7, z8, z9, za, zb, zc, ↓reduceIte, List.set_cons_succ, List.set_cons_zero])
    ((refine expG_get 2 (.ref 0 2 0 0) rfl ?_ ?_ ?_ ?_ ?_); (· decide +kernel); (· decide +kernel); (· rfl); (· (intro S hS0; simp -implicitDefEqProofs only [go_sem, z1, z2, z3, z4, z5, z6, z7, z8, z9, za, zb, zc, ↓reduceIte, hS0, *])); try simp -implicitDefEqProofs only [go_sem, z1, z2, z3, z4, z5, z6, z7, z8, z9, za, zb, zc, ↓reduceIte, List.set_cons_succ, List.set_cons_zero])
    ((refine expG_get 4 (.ref 0 2 0 0) rfl ?_ ?_ ?_ ?_ ?_); (· decide +kernel); (· decide +kernel); (· rfl); (· (intro S hS0; simp -implicitDefEqProofs only [go_sem, z1, z2, z3, z4, z5, z6, z7, z8, z9, za, zb, zc, ↓reduceIte, hS0, *])); try simp -implicitDefEqProofs only [go_sem, z1, z2, z3, z4, z5, z6, z7, z8, z9, za, zb, zc, ↓reduceIte, List.set_cons_succ, List.set_cons_zero])
    ((with_reducible refine expG_one 3 ?_ ?_); (· decide +kernel); try simp -implicitDefEqProofs only [go_sem, z1, z2, z3, z4, z5, z6, z7, z8, z9, za, zb, zc, ↓reduceIte, *])
    ((with_reducible refine pick_at hC ?_ ?_ ?_); (· omega); (· first | decide | omega); rintro k2 hk2; try simp -implicitDefEqProofs only [go_sem, z1, z2, z3, z4, z5, z6, z7, z8, z9, za, zb, zc, ↓reduceIte, *])
    have hk2' : 0 ≤ k2 ∧ k2 < 5 := hk2
    ((with_reducible refine expG_one 5 ?_ ?_); (· decide +kernel); try simp -implicitDefEqProofs only [go_sem, z1, z2, z3, z4, z5, z6, z7, z8, z9, za, zb, zc, ↓reduceIte, *])
    ((with_reducible refine at_reader (l71Page_c l _ hC (by omega)) (fun _ _ => rfl) ?_); rintro ⟨x, p2⟩ ⟨h0, h1, h2⟩; simp only at *; try simp -implicitDefEqProofs only [go_sem, z1, z2, z3, z4, z5, z6, z7, z8, z9, za, zb, zc, ↓reduceIte, *])
    (repeat' (first | ((with_reducible first | refine gon ?_ ?_ | refine gos ?_ ?_ | refine cdn ?_ ?_ | refine cds ?_ ?_ | refine gpn ?_ ?_ | refine gps ?_ ?_) <;> intro h <;> (try simp only [dt, df, gi, gt] at h) <;> try simp -implicitDefEqProofs only [go_sem, z1, z2, z3, z4, z5, z6, z7, z8, z9, za, zb, zc, ↓reduceIte, *]) | ((with_reducible refine And.intro ?_ ?_); (· first | omega | (simp only [List.length_take]; omega)); try simp -implicitDefEqProofs only [go_sem, z1, z2, z3, z4, z5, z6, z7, z8, z9, za, zb, zc, ↓reduceIte, *]) | first | ((with_reducible refine expG_one 6 ?_ ?_); (· decide +kernel); try simp -implicitDefEqProofs only [go_sem, z1, z2, z3, z4, z5, z6, z7, z8, z9, za, zb, zc, ↓reduceIte, *]) | ((with_reducible refine expG_one 7 ?_ ?_); (· decide +kernel); try simp -implicitDefEqProofs only [go_sem, z1, z2, z3, z4, z5, z6, z7, z8, z9, za, zb, zc, ↓reduceIte, *]) | ((with_reducible refine expG_end ?_ ?_); (· decide +kernel); try simp -implicitDefEqProofs only [go_sem, z1, z2, z3, z4, z5, z6, z7, z8, z9, za, zb, zc, ↓reduceIte, *])))
    refine fin_eng rfl rfl (rd_recs (by decide) (by decide) rfl rfl) (dr_mem hdr _ h0) ?_ ?_ <;> omega
  · refine cp_drawG (id := 8) 8 (fun S => getO S 5 = some ⟨5, [eL 2 3 4 ⟨ca, cb, cc, cs, cd⟩]⟩) mixed rfl ?_
    ((refine expG_get 0 (.ref 5 5 0 0) rfl ?_ ?_ ?_ ?_ ?_); (· decide +kernel); (· decide +kernel); (· rfl); (· (intro S hS0; simp -implicitDefEqProofs only [go_sem, z1, z2, z3, z4, z5, z6, z7, z8, z9, za, zb, zc, ↓reduceIte, hS0, *])); try simp -implicitDefEqProofs only [go_sem, z1, z2, z3, z4, z5, z6, z7, z8, z9, za, zb, zc, ↓reduceIte, List.set_cons_succ, List.set_cons_zero])
    ((refine expG_get 1 (.own 2 3 0 5) rfl ?_ ?_ ?_ ?_ ?_); (· decide +kernel); (· decide +kernel); (· rfl); (· (intro S hS0; simp -implicitDefEqProofs only [go_sem, z1, z2, z3, z4, z5, z6, z7, z8, z9, za, zb, zc, ↓reduceIte, hS0, *])); try simp -implicitDefEqProofs only [go_sem, z1, z2, z3, z4, z5, z6, z7, z8, z9, za, zb, zc, ↓reduceIte, List.set_cons_succ, List.set_cons_zero])
    ((refine expG_get 2 (.ref 0 2 0 0) rfl ?_ ?_ ?_ ?_ ?_); (· decide +kernel); (· decide +kernel); (· rfl); (· (intro S hS0; simp -implicitDefEqProofs only [go_sem, z1, z2, z3, z4, z5, z6, z7, z8, z9, za, zb, zc, ↓reduceIte, hS0, *])); try simp -implicitDefEqProofs only [go_sem, z1, z2, z3, z4, z5, z6, z7, z8, z9, za, zb, zc, ↓reduceIte, List.set_cons_succ, List.set_cons_zero])
    ((refine expG_get 4 (.ref 0 2 0 0) rfl ?_ ?_ ?_ ?_ ?_); (· decide +kernel); (· decide +kernel); (· rfl); (· (intro S hS0; simp -implicitDefEqProofs only [go_sem, z1, z2, z3, z4, z5, z6, z7, z8, z9, za, zb, zc, ↓reduceIte, hS0, *])); try simp -implicitDefEqProofs only [go_sem, z1, z2, z3, z4, z5, z6, z7, z8, z9, za, zb, zc, ↓reduceIte, List.set_cons_succ, List.set_cons_zero])
    ((with_reducible refine expG_one 3 ?_ ?_); (· decide +kernel); try simp -implicitDefEqProofs only [go_sem, z1, z2, z3, z4, z5, z6, z7, z8, z9, za, zb, zc, ↓reduceIte, *])
    ((with_reducible refine pick_at hC ?_ ?_ ?_); (· omega); (· first | decide | omega); rintro k2 hk2; try simp -implicitDefEqProofs only [go_sem, z1, z2, z3, z4, z5, z6, z7, z8, z9, za, zb, zc, ↓reduceIte, *])
    have hk2' : 0 ≤ k2 ∧ k2 < 5 := hk2
    ((with_reducible refine expG_one 5 ?_ ?_); (· decide +kernel); try simp -implicitDefEqProofs only [go_sem, z1, z2, z3, z4, z5, z6, z7, z8, z9, za, zb, zc, ↓reduceIte, *])
    ((with_reducible refine at_reader (l71Page_c l _ hC (by omega)) (fun _ _ => rfl) ?_); rintro ⟨x, p2⟩ ⟨h0, h1, h2⟩; simp only at *; try simp -implicitDefEqProofs only [go_sem, z1, z2, z3, z4, z5, z6, z7, z8, z9, za, zb, zc, ↓reduceIte, *])
    (repeat' (first | ((with_reducible first | refine gon ?_ ?_ | refine gos ?_ ?_ | refine cdn ?_ ?_ | refine cds ?_ ?_ | refine gpn ?_ ?_ | refine gps ?_ ?_) <;> intro h <;> (try simp only [dt, df, gi, gt] at h) <;> try simp -implicitDefEqProofs only [go_sem, z1, z2, z3, z4, z5, z6, z7, z8, z9, za, zb, zc, ↓reduceIte, *]) | ((with_reducible refine And.intro ?_ ?_); (· first | omega | (simp only [List.length_take]; omega)); try simp -implicitDefEqProofs only [go_sem, z1, z2, z3, z4, z5, z6, z7, z8, z9, za, zb, zc, ↓reduceIte, *]) | first | ((with_reducible refine expG_one 6 ?_ ?_); (· decide +kernel); try simp -implicitDefEqProofs only [go_sem, z1, z2, z3, z4, z5, z6, z7, z8, z9, za, zb, zc, ↓reduceIte, *]) | ((with_reducible refine expG_one 7 ?_ ?_); (· decide +kernel); try simp -implicitDefEqProofs only [go_sem, z1, z2, z3, z4, z5, z6, z7, z8, z9, za, zb, zc, ↓reduceIte, *]) | ((with_reducible refine expG_end ?_ ?_); (· decide +kernel); try simp -implicitDefEqProofs only [go_sem, z1, z2, z3, z4, z5, z6, z7, z8, z9, za, zb, zc, ↓reduceIte, *])))
    refine fin_eng rfl rfl (rd_recs (by decide) (by decide) rfl rfl) (dr_disk hdr _ h0) ?_ ?_ <;> omega
  all_goals (refine fin_eng rfl rfl (.rn _ _ (.same _ rfl)) (dr_log hdr (by omega)) ?_ ?_ <;> omega)
theorem l6Open_c (l : List Int) (hl : l.length < 4611686018427387904) (hb : Byt l) : AFnX Tryz.prog 43 [bts l] [] (fun l' : List Int => Cod l') (fun _ => .ref 0 2 0 0) (fun l' => [oR l' 0]) [] :=
  AFn.mono (l6Open_fn l hl hb) fun r S' mv ⟨⟨l', h1, h2, h3⟩, h4⟩ => ⟨l', h1, h2, h3, h4⟩
/-- What a drawing hands back: no object. -/
abbrev FnX (f : FuncId) (args : List AV) {X : Type} (J : X → Prop) (R : X → AV) : Prop := AFnX Tryz.prog f args [] J R (fun _ => []) []
theorem fin_drawn {r r' : AV} {S : Store} {mv : List Nat} {Q : AV → Store → List Nat → Prop} (hr : RdT [] S 0 r r') (h : Q r' [] []) : Fin 0 r S mv Q :=
  fin_drop [] [] (by simp) rfl (by decide) (fun j i h => by cases h) (fun i hi => absurd hi (Nat.not_lt_zero _)) hr h
end Go.Proofs.YtcpfcpfikinbmaaGreat.Am
end
section
set_option linter.unusedVariables false
set_option linter.unusedSimpArgs false
set_option maxRecDepth 100000
set_option maxHeartbeats 8000000
namespace Go.Proofs.YtcpfcpfikinbmaaGreat.Am
open Go Go.RowKit Go.Proofs
attribute [local congr] opsP_congr codeP_congr AWP_congr afterR_congr preP_congr afterPre_congr gPre_congr gOps_congr condP_congr stepE_congr
attribute [local go_sem] ty_int ty_bool ty_str ty_u8 ty_ints ty_bytes ty_page ty_pages ty_lpage ty_lpages ty_rec ty_recs ty_lrec ty_lrecs ty_eng ty_leng
attribute [local go_sem] true_and and_true beq_true' beq_false' toNat_cast Int.natCast_nonneg Bool.not_not Bool.not_true Bool.not_false decide_true decide_false Bool.or_false Bool.false_or Bool.or_true Bool.true_or Bool.and_false Bool.false_and Nat.zero_add Int.toNat_of_nonneg wrap_succ wrap_m1 wrap_nat succ_m1 cast0 succ_pos' succ_ne' succ_bne' ge_iff_le gt_iff_lt if_true if_false
attribute [local go_sem] slt_r slt_I slt_p ty_rd ty_ev ty_evs
theorem dr_small {e : Eng} (h : e.dr) : e.small := ⟨by have := h.disk; omega, by have := h.mem; omega, by have := h.log; omega, fun p hp => by have := h.dv p hp; omega, fun p hp => by have := h.mv p hp; omega⟩
theorem okI (e : Eng) (h : e.small) : Fn1 Tryz.prog 24 [eA e] (Bo (okE e)) := EngineOkI_fn lastC lastOfC recC (pagesC lastC) e h.disk h.mem h.log h.dv h.mv
theorem okS (e : Eng) (h : e.small) : Fn1 Tryz.prog 14 [eA e] (Bo (okE e)) := EngineOkS_fn e h.disk h.mem h.log
end Go.Proofs.YtcpfcpfikinbmaaGreat.Am
end
section
set_option linter.unusedVariables false
set_option linter.unusedSimpArgs false
set_option maxRecDepth 100000
namespace Go.Proofs.YtcpfcpfikinbmaaGreat.Am
open Go Go.RowKit Go.Proofs Go.ChangeShapes Go.WideShapes
section
variable {H : Type} {enc : TypeId × Value → H} {w : World} {μ : Nat → Nat}
theorem opens_u8 : Opens enc w μ 5 1 bD (fun n => 0 ≤ n ∧ n < 256) := by
  intro fuel cs d ps h
  cases fuel with
  | zero => simp [DataW.trod] at h
  | succ fuel =>
    unfold DataW.trod at h
    rw [Tryz.underlying5] at h
    rcases cs with _ | ⟨v, _ | ⟨u, cs⟩⟩
    · simp at h
    · cases v <;> simp only [reduceCtorEq] at h
      rename_i k n
      split at h
      · rename_i hk
        obtain ⟨rfl, hwf⟩ := hk
        refine ⟨n, rfl, ?_, fun _ => ?_⟩
        · rintro (_ | j) y hy
          · simp [bD_cells] at hy; subst hy; exact ⟨_, rfl, .prim _ rfl⟩
          · simp [bD_cells] at hy
        · have h1 : IntKind.u8.min = 0 := rfl
          have h2 : IntKind.u8.max = 255 := rfl
          simp only [Lit.wf, Bool.and_eq_true, decide_eq_true_eq] at hwf
          omega
      · cases h
    · simp at h
theorem opens_bytes : Opens enc w μ 22 1 (fun l : List Int => .sl 1 (l.map bD)) (fun l => l.length < 4611686018427387904 ∧ ∀ a ∈ l, 0 ≤ a ∧ a < 256) :=
  opens_sl opens_u8 Tryz.underlying22 (by kernel_rfl) (by decide) (Nat.le_trans (by decide) (Nat.le_of_eq (by kernel_rfl : (1 : Nat) = _))) (fun a => ⟨rfl, by simp [bD_cells]; rfl⟩)
/-- A code that is an argument. -/
theorem open_bytes {r : Reach} {b0 : Nat} {v : Value} {d : DataW H} {ps : List MemPlace} (hval : Value.okWide Tryz.prog w r b0 22 v) (hd : DataW.Trod enc Tryz.prog w 0 (fun _ => true) true 22 v d ps)
    (hw : (d.weights Tryz.prog 22).all (· ≤ reachBytes) = true) : ∃ l : List Int, l.length < 4611686018427387904 ∧ Byt l ∧ Rep okT w (fun i => i) [] (bts l) v := by
  obtain ⟨a, len, cap, rfl⟩ := okWide_slice Tryz.underlying22 hval
  obtain ⟨fuel, hf⟩ := hd
  obtain ⟨l, hl, hr, hq⟩ := opens_bytes (μ := fun i => i) _ _ _ _ hf
  obtain ⟨q1, q2⟩ := hq hw
  refine ⟨l, q1, fun k hk => q2 _ (at_mem l k hk), ?_⟩
  obtain ⟨u, hu, hR⟩ := hr 0 _ rfl
  simp [Value.cells] at hu
  subst hu
  exact .sl _ _ _ hR
end
end Go.Proofs.YtcpfcpfikinbmaaGreat.Am
end
section
set_option linter.unusedVariables false
set_option linter.unusedSimpArgs false
set_option maxRecDepth 100000
set_option maxHeartbeats 8000000
namespace Go.Proofs.YtcpfcpfikinbmaaGreat.Am
open Go Go.RowKit Go.Proofs
open Nat renaming reduceAdd → z1, reduceSub → z2, reduceMul → z3, reduceLT → z4, reduceLeDiff → z5, reduceEqDiff → z6
open Int renaming reduceBEq → z7, reduceBNe → z8, reduceNeg → z9, reduceSub → za, reduceLE → zb, reduceLT → zc
attribute [local congr] opsP_congr codeP_congr AWP_congr afterR_congr preP_congr afterPre_congr gPre_congr gOps_congr condP_congr stepE_congr
attribute [local go_sem] ty_int ty_bool ty_str ty_u8 ty_ints ty_bytes ty_page ty_pages ty_lpage ty_lpages ty_rec ty_recs ty_lrec ty_lrecs ty_eng ty_leng
attribute [local go_sem] true_and and_true beq_true' beq_false' toNat_cast Int.natCast_nonneg Bool.not_not Bool.not_true Bool.not_false decide_true decide_false Bool.or_false Bool.false_or Bool.or_true Bool.true_or Bool.and_false Bool.false_and Nat.zero_add Int.toNat_of_nonneg wrap_succ wrap_m1 wrap_nat succ_m1 cast0 succ_pos' succ_ne' succ_bne' ge_iff_le gt_iff_lt if_true if_false
attribute [local go_sem] slt_r slt_I slt_p
theorem ltInts_fn (a b : List Int) (hb : a.length < 4611686018427387904) : Fn1 Tryz.prog 30 [ints a, ints b] (Bo (sameInts a b)) := by
  refine fn1_of Tryz.func30 rfl rfl ?_
  simp -implicitDefEqProofs only [go_sem, z1, z2, z3, z4, z5, z6, z7, z8, z9, za, zb, zc, ↓reduceIte, Tryz.f30]
  (repeat' (first | ((with_reducible first | refine gon ?_ ?_ | refine gos ?_ ?_ | refine cdn ?_ ?_ | refine cds ?_ ?_ | refine gpn ?_ ?_ | refine gps ?_ ?_) <;> intro h <;> (try simp only [dt, df, gi, gt] at h) <;> try simp -implicitDefEqProofs only [go_sem, z1, z2, z3, z4, z5, z6, z7, z8, z9, za, zb, zc, ↓reduceIte, *]) | ((with_reducible refine And.intro ?_ ?_); (· first | omega | (simp only [List.length_take]; omega)); try simp -implicitDefEqProofs only [go_sem, z1, z2, z3, z4, z5, z6, z7, z8, z9, za, zb, zc, ↓reduceIte, *]) | fail))
  all_goals try ((with_reducible refine fin_pu ?_ ?_); (· (simp_all [sameInts]) <;> (first | omega | (rw [Bool.eq_iff_iff]; simp; done) | (rw [Bool.eq_iff_iff]; simp; omega) | (split <;> (first | rfl | omega | (simp_all; done))))); (· rfl))
  · have hl : a.length = b.length := by have := h; simp at this; omega
    refine cp_loop (fun i : Nat => ⟨(ints a :: ints b :: .any :: .any :: Bo false :: I (i : Int) :: .any :: .any :: .any :: .any :: .any :: .any :: .any :: .any :: .any :: .any :: .any :: .any :: .any :: .any :: .any :: .any :: .any :: .any :: .any :: .any :: []), [], []⟩) (fun i => i ≤ a.length ∧ allFrom (fun k => at' a (k : Int) == at' b (k : Int)) i a.length = sameInts a b) (fun i => a.length - i) 0 ?_ ?_ ?_
    · exact ⟨by omega, by simp [sameInts, hl]⟩
    · refine wk_tm ?_; repeat (first | exact WL.nil | (with_reducible refine WL.any _ _ _ ?_) | (with_reducible refine WL.same _ _ _ ?_) | (refine WL.eq _ _ _ _ rfl ?_))
    · rintro i ⟨hi, hg⟩
      have hbi : i < 4611686018427387904 := by omega
      simp -implicitDefEqProofs only [go_sem, z1, z2, z3, z4, z5, z6, z7, z8, z9, za, zb, zc, ↓reduceIte, true_and]
      (repeat' (first | ((with_reducible first | refine gon ?_ ?_ | refine gos ?_ ?_ | refine cdn ?_ ?_ | refine cds ?_ ?_ | refine gpn ?_ ?_ | refine gps ?_ ?_) <;> intro h <;> (try simp only [dt, df, gi, gt] at h) <;> try simp -implicitDefEqProofs only [go_sem, z1, z2, z3, z4, z5, z6, z7, z8, z9, za, zb, zc, ↓reduceIte, *]) | ((with_reducible refine And.intro ?_ ?_); (· first | omega | (simp only [List.length_take]; omega)); try simp -implicitDefEqProofs only [go_sem, z1, z2, z3, z4, z5, z6, z7, z8, z9, za, zb, zc, ↓reduceIte, *]) | ((with_reducible refine cp_draw (id := 6) 9 mixed ?_ ?_ ?_); (· decide +kernel); (· first | (simp only [List.all_cons, List.all_nil, List.length_cons, List.length_nil, Nat.reduceAdd, Nat.reduceLT, decide_true, Bool.and_true, Bool.and_self]; done) | rfl); try simp -implicitDefEqProofs only [go_sem, z1, z2, z3, z4, z5, z6, z7, z8, z9, za, zb, zc, ↓reduceIte, *])))
      all_goals first
        | ((with_reducible refine fin_pu ?_ ?_); (· (rw [← hg, allFrom_lt (by omega : i < a.length)]; clear hg; simp_all; done)); (· rfl))
        | ((with_reducible refine fin_pu ?_ ?_); (· (rw [← hg, allFrom_ge (by omega : ¬ i < a.length)]; done)); (· rfl))
        | ((with_reducible refine ⟨i + 1, ⟨by omega, ?_⟩, by omega, ?_⟩); (· (rw [← hg, allFrom_lt (by omega : i < a.length)]; clear hg; simp_all)); (· refine wk_tm ?_; repeat (first | exact WL.nil | (with_reducible refine WL.any _ _ _ ?_) | (with_reducible refine WL.same _ _ _ ?_) | (refine WL.eq _ _ _ _ rfl ?_))))
theorem ltPage_fn (p q : Pg) (hb : p.vals.length < 4611686018427387904) : Fn1 Tryz.prog 33 [pA p, pA q] (Bo (sameP p q)) := by
  refine fn1_of Tryz.func33 rfl rfl ?_
  simp -implicitDefEqProofs only [go_sem, z1, z2, z3, z4, z5, z6, z7, z8, z9, za, zb, zc, ↓reduceIte, Tryz.f33]
  (repeat' (first | ((with_reducible first | refine gon ?_ ?_ | refine gos ?_ ?_ | refine cdn ?_ ?_ | refine cds ?_ ?_ | refine gpn ?_ ?_ | refine gps ?_ ?_) <;> intro h <;> (try simp only [dt, df, gi, gt] at h) <;> try simp -implicitDefEqProofs only [go_sem, z1, z2, z3, z4, z5, z6, z7, z8, z9, za, zb, zc, ↓reduceIte, *]) | ((with_reducible refine And.intro ?_ ?_); (· first | omega | (simp only [List.length_take]; omega)); try simp -implicitDefEqProofs only [go_sem, z1, z2, z3, z4, z5, z6, z7, z8, z9, za, zb, zc, ↓reduceIte, *]) | ((with_reducible refine enter_pu (ltInts_fn p.vals q.vals hb) ?_ ?_ ?_); (· rfl); (· rfl); try simp -implicitDefEqProofs only [go_sem, z1, z2, z3, z4, z5, z6, z7, z8, z9, za, zb, zc, ↓reduceIte, *])))
  all_goals try ((with_reducible refine fin_pu ?_ ?_); (· (simp_all [sameP]) <;> (first | omega | (rw [Bool.eq_iff_iff]; simp; done) | (rw [Bool.eq_iff_iff]; simp; omega) | (split <;> (first | rfl | omega | (simp_all; done))))); (· rfl))
theorem ltPages_fn (a b : List Pg) (hb : a.length < 4611686018427387904) (hv : ∀ p ∈ a, p.vals.length < 4611686018427387904) : Fn1 Tryz.prog 32 [pgs a, pgs b] (Bo (samePs a b)) := by
  refine fn1_of Tryz.func32 rfl rfl ?_
  simp -implicitDefEqProofs only [go_sem, z1, z2, z3, z4, z5, z6, z7, z8, z9, za, zb, zc, ↓reduceIte, Tryz.f32]
  (repeat' (first | ((with_reducible first | refine gon ?_ ?_ | refine gos ?_ ?_ | refine cdn ?_ ?_ | refine cds ?_ ?_ | refine gpn ?_ ?_ | refine gps ?_ ?_) <;> intro h <;> (try simp only [dt, df, gi, gt] at h) <;> try simp -implicitDefEqProofs only [go_sem, z1, z2, z3, z4, z5, z6, z7, z8, z9, za, zb, zc, ↓reduceIte, *]) | ((with_reducible refine And.intro ?_ ?_); (· first | omega | (simp only [List.length_take]; omega)); try simp -implicitDefEqProofs only [go_sem, z1, z2, z3, z4, z5, z6, z7, z8, z9, za, zb, zc, ↓reduceIte, *]) | fail))
  all_goals try ((with_reducible refine fin_pu ?_ ?_); (· (simp_all [samePs]) <;> (first | omega | (rw [Bool.eq_iff_iff]; simp; done) | (rw [Bool.eq_iff_iff]; simp; omega) | (split <;> (first | rfl | omega | (simp_all; done))))); (· rfl))
  · have hl : a.length = b.length := by have := h; simp at this; omega
    refine cp_loop (fun i : Nat => ⟨(pgs a :: pgs b :: .any :: .any :: Bo false :: I (i : Int) :: .any :: .any :: .any :: .any :: .any :: .any :: .any :: .any :: .any :: .any :: .any :: .any :: .any :: .any :: .any :: .any :: .any :: .any :: .any :: .any :: .any :: []), [], []⟩) (fun i => i ≤ a.length ∧ allFrom (fun k => sameP (at' a (k : Int)) (at' b (k : Int))) i a.length = samePs a b) (fun i => a.length - i) 0 ?_ ?_ ?_
    · exact ⟨by omega, by simp [samePs, hl]⟩
    · refine wk_tm ?_; repeat (first | exact WL.nil | (with_reducible refine WL.any _ _ _ ?_) | (with_reducible refine WL.same _ _ _ ?_) | (refine WL.eq _ _ _ _ rfl ?_))
    · rintro i ⟨hi, hg⟩
      have hbi : i < 4611686018427387904 := by omega
      simp -implicitDefEqProofs only [go_sem, z1, z2, z3, z4, z5, z6, z7, z8, z9, za, zb, zc, ↓reduceIte, true_and]
      (repeat' (first | ((with_reducible first | refine gon ?_ ?_ | refine gos ?_ ?_ | refine cdn ?_ ?_ | refine cds ?_ ?_ | refine gpn ?_ ?_ | refine gps ?_ ?_) <;> intro h <;> (try simp only [dt, df, gi, gt] at h) <;> try simp -implicitDefEqProofs only [go_sem, z1, z2, z3, z4, z5, z6, z7, z8, z9, za, zb, zc, ↓reduceIte, *]) | ((with_reducible refine And.intro ?_ ?_); (· first | omega | (simp only [List.length_take]; omega)); try simp -implicitDefEqProofs only [go_sem, z1, z2, z3, z4, z5, z6, z7, z8, z9, za, zb, zc, ↓reduceIte, *]) | first | ((with_reducible refine cp_draw (id := 6) 10 mixed ?_ ?_ ?_); (· decide +kernel); (· first | (simp only [List.all_cons, List.all_nil, List.length_cons, List.length_nil, Nat.reduceAdd, Nat.reduceLT, decide_true, Bool.and_true, Bool.and_self]; done) | rfl); try simp -implicitDefEqProofs only [go_sem, z1, z2, z3, z4, z5, z6, z7, z8, z9, za, zb, zc, ↓reduceIte, *]) | ((with_reducible refine pre_enter _ (det_pu (ltPage_fn (at' a (i : Int)) (at' b (i : Int)) (hv _ (at_mem a i (by omega)))) ?_ ?_) ?_ ?_); (· rfl); (· rfl); (· rfl); try simp -implicitDefEqProofs only [go_sem, z1, z2, z3, z4, z5, z6, z7, z8, z9, za, zb, zc, ↓reduceIte, *])))
      all_goals first
        | ((with_reducible refine fin_pu ?_ ?_); (· (rw [← hg, allFrom_lt (by omega : i < a.length)]; clear hg; simp_all; done)); (· rfl))
        | ((with_reducible refine fin_pu ?_ ?_); (· (rw [← hg, allFrom_ge (by omega : ¬ i < a.length)]; done)); (· rfl))
        | ((with_reducible refine ⟨i + 1, ⟨by omega, ?_⟩, by omega, ?_⟩); (· (rw [← hg, allFrom_lt (by omega : i < a.length)]; clear hg; simp_all)); (· refine wk_tm ?_; repeat (first | exact WL.nil | (with_reducible refine WL.any _ _ _ ?_) | (with_reducible refine WL.same _ _ _ ?_) | (refine WL.eq _ _ _ _ rfl ?_))))
theorem ltRecs_fn (a b : List Rc) (hb : a.length < 4611686018427387904) : Fn1 Tryz.prog 35 [recs a, recs b] (Bo (sameRs a b)) := by
  refine fn1_of Tryz.func35 rfl rfl ?_
  simp -implicitDefEqProofs only [go_sem, z1, z2, z3, z4, z5, z6, z7, z8, z9, za, zb, zc, ↓reduceIte, Tryz.f35]
  (repeat' (first | ((with_reducible first | refine gon ?_ ?_ | refine gos ?_ ?_ | refine cdn ?_ ?_ | refine cds ?_ ?_ | refine gpn ?_ ?_ | refine gps ?_ ?_) <;> intro h <;> (try simp only [dt, df, gi, gt] at h) <;> try simp -implicitDefEqProofs only [go_sem, z1, z2, z3, z4, z5, z6, z7, z8, z9, za, zb, zc, ↓reduceIte, *]) | ((with_reducible refine And.intro ?_ ?_); (· first | omega | (simp only [List.length_take]; omega)); try simp -implicitDefEqProofs only [go_sem, z1, z2, z3, z4, z5, z6, z7, z8, z9, za, zb, zc, ↓reduceIte, *]) | fail))
  all_goals try ((with_reducible refine fin_pu ?_ ?_); (· (simp_all [sameRs]) <;> (first | omega | (rw [Bool.eq_iff_iff]; simp; done) | (rw [Bool.eq_iff_iff]; simp; omega) | (split <;> (first | rfl | omega | (simp_all; done))))); (· rfl))
  · have hl : a.length = b.length := by have := h; simp at this; omega
    refine cp_loop (fun i : Nat => ⟨(recs a :: recs b :: .any :: .any :: Bo false :: I (i : Int) :: .any :: .any :: .any :: .any :: .any :: .any :: .any :: .any :: .any :: .any :: .any :: .any :: .any :: .any :: .any :: .any :: .any :: .any :: .any :: .any :: []), [], []⟩) (fun i => i ≤ a.length ∧ allFrom (fun k => sameR (at' a (k : Int)) (at' b (k : Int))) i a.length = sameRs a b) (fun i => a.length - i) 0 ?_ ?_ ?_
    · exact ⟨by omega, by simp [sameRs, hl]⟩
    · refine wk_tm ?_; repeat (first | exact WL.nil | (with_reducible refine WL.any _ _ _ ?_) | (with_reducible refine WL.same _ _ _ ?_) | (refine WL.eq _ _ _ _ rfl ?_))
    · rintro i ⟨hi, hg⟩
      have hbi : i < 4611686018427387904 := by omega
      simp -implicitDefEqProofs only [go_sem, z1, z2, z3, z4, z5, z6, z7, z8, z9, za, zb, zc, ↓reduceIte, true_and]
      (repeat' (first | ((with_reducible first | refine gon ?_ ?_ | refine gos ?_ ?_ | refine cdn ?_ ?_ | refine cds ?_ ?_ | refine gpn ?_ ?_ | refine gps ?_ ?_) <;> intro h <;> (try simp only [dt, df, gi, gt] at h) <;> try simp -implicitDefEqProofs only [go_sem, z1, z2, z3, z4, z5, z6, z7, z8, z9, za, zb, zc, ↓reduceIte, *]) | ((with_reducible refine And.intro ?_ ?_); (· first | omega | (simp only [List.length_take]; omega)); try simp -implicitDefEqProofs only [go_sem, z1, z2, z3, z4, z5, z6, z7, z8, z9, za, zb, zc, ↓reduceIte, *]) | ((with_reducible refine cp_draw (id := 6) 9 mixed ?_ ?_ ?_); (· decide +kernel); (· first | (simp only [List.all_cons, List.all_nil, List.length_cons, List.length_nil, Nat.reduceAdd, Nat.reduceLT, decide_true, Bool.and_true, Bool.and_self]; done) | rfl); try simp -implicitDefEqProofs only [go_sem, z1, z2, z3, z4, z5, z6, z7, z8, z9, za, zb, zc, ↓reduceIte, *])))
      all_goals first
        | ((with_reducible refine fin_pu ?_ ?_); (· (rw [← hg, allFrom_lt (by omega : i < a.length)]; clear hg; simp_all [sameR]; done)); (· rfl))
        | ((with_reducible refine fin_pu ?_ ?_); (· (rw [← hg, allFrom_ge (by omega : ¬ i < a.length)]; done)); (· rfl))
        | ((with_reducible refine ⟨i + 1, ⟨by omega, ?_⟩, by omega, ?_⟩); (· (rw [← hg, allFrom_lt (by omega : i < a.length)]; clear hg; simp_all [sameR])); (· refine wk_tm ?_; repeat (first | exact WL.nil | (with_reducible refine WL.any _ _ _ ?_) | (with_reducible refine WL.same _ _ _ ?_) | (refine WL.eq _ _ _ _ rfl ?_))))
theorem ltEngine_fn (a b : Eng) (ha : a.small) : Fn1 Tryz.prog 23 [eA a, eA b] (Bo (sameE a b)) := by
  refine fn1_of Tryz.func23 rfl rfl ?_
  simp -implicitDefEqProofs only [go_sem, z1, z2, z3, z4, z5, z6, z7, z8, z9, za, zb, zc, ↓reduceIte, Tryz.f23]
  (repeat' (first | ((with_reducible first | refine gon ?_ ?_ | refine gos ?_ ?_ | refine cdn ?_ ?_ | refine cds ?_ ?_ | refine gpn ?_ ?_ | refine gps ?_ ?_) <;> intro h <;> (try simp only [dt, df, gi, gt] at h) <;> try simp -implicitDefEqProofs only [go_sem, z1, z2, z3, z4, z5, z6, z7, z8, z9, za, zb, zc, ↓reduceIte, *]) | ((with_reducible refine And.intro ?_ ?_); (· first | omega | (simp only [List.length_take]; omega)); try simp -implicitDefEqProofs only [go_sem, z1, z2, z3, z4, z5, z6, z7, z8, z9, za, zb, zc, ↓reduceIte, *]) | first | ((with_reducible refine enter_pu (ltPages_fn a.disk b.disk ha.disk ha.dv) ?_ ?_ ?_); (· rfl); (· rfl); try simp -implicitDefEqProofs only [go_sem, z1, z2, z3, z4, z5, z6, z7, z8, z9, za, zb, zc, ↓reduceIte, *]) | ((with_reducible refine enter_pu (ltPages_fn a.mem b.mem ha.mem ha.mv) ?_ ?_ ?_); (· rfl); (· rfl); try simp -implicitDefEqProofs only [go_sem, z1, z2, z3, z4, z5, z6, z7, z8, z9, za, zb, zc, ↓reduceIte, *]) | ((with_reducible refine enter_pu (ltRecs_fn a.log b.log ha.log) ?_ ?_ ?_); (· rfl); (· rfl); try simp -implicitDefEqProofs only [go_sem, z1, z2, z3, z4, z5, z6, z7, z8, z9, za, zb, zc, ↓reduceIte, *])))
  all_goals try ((with_reducible refine fin_pu ?_ ?_); (· (simp_all [sameE]) <;> (first | omega | (rw [Bool.eq_iff_iff]; simp; done) | (rw [Bool.eq_iff_iff]; simp; omega) | (split <;> (first | rfl | omega | (simp_all; done))))); (· rfl))
end Go.Proofs.YtcpfcpfikinbmaaGreat.Am
end
section
set_option linter.unusedVariables false
set_option linter.unusedSimpArgs false
set_option maxRecDepth 100000
set_option maxHeartbeats 8000000
namespace Go.Proofs.YtcpfcpfikinbmaaGreat.Am
open Go Go.RowKit Go.Proofs
open Nat renaming reduceAdd → z1, reduceSub → z2, reduceMul → z3, reduceLT → z4, reduceLeDiff → z5, reduceEqDiff → z6
open Int renaming reduceBEq → z7, reduceBNe → z8, reduceNeg → z9, reduceSub → za, reduceLE → zb, reduceLT → zc
attribute [local congr] opsP_congr codeP_congr AWP_congr afterR_congr preP_congr afterPre_congr gPre_congr gOps_congr condP_congr stepE_congr
attribute [local go_sem] ty_int ty_bool ty_str ty_u8 ty_ints ty_bytes ty_page ty_pages ty_lpage ty_lpages ty_rec ty_recs ty_lrec ty_lrecs ty_eng ty_leng
attribute [local go_sem] true_and and_true beq_true' beq_false' toNat_cast Int.natCast_nonneg Bool.not_not Bool.not_true Bool.not_false decide_true decide_false Bool.or_false Bool.false_or Bool.or_true Bool.true_or Bool.and_false Bool.false_and Nat.zero_add Int.toNat_of_nonneg wrap_succ wrap_m1 wrap_nat succ_m1 cast0 succ_pos' succ_ne' succ_bne' ge_iff_le gt_iff_lt if_true if_false
attribute [local go_sem] slt_r slt_I slt_p
def openL (l : List Rc) : List Int := if logOk l = true then openTo l 3 else []
def lockE (e : Eng) (page : Int) : Nat := if okE e = true ∧ isIn page 0 4 = true then lockFrom e.log page 0 else 0
theorem EngineLockI_fn (e : Eng) (page : Int) (h : e.small) : Fn1 Tryz.prog 15 [eA e, I page] (I (lockE e page)) := by
  have c1 := okI e h
  have c2 := isPage_fn page
  refine fn1_of Tryz.func15 rfl rfl ?_
  unfold lockE
  rcases hok : okE e with _ | _
  · rw [hok] at c1
    simp -implicitDefEqProofs only [go_sem, z1, z2, z3, z4, z5, z6, z7, z8, z9, za, zb, zc, ↓reduceIte, Tryz.f15]
    (repeat' (first | ((with_reducible first | refine gon ?_ ?_ | refine gos ?_ ?_ | refine cdn ?_ ?_ | refine cds ?_ ?_ | refine gpn ?_ ?_ | refine gps ?_ ?_) <;> intro h <;> (try simp only [dt, df, gi, gt] at h) <;> try simp -implicitDefEqProofs only [go_sem, z1, z2, z3, z4, z5, z6, z7, z8, z9, za, zb, zc, ↓reduceIte, *]) | ((with_reducible refine And.intro ?_ ?_); (· first | omega | (simp only [List.length_take]; omega)); try simp -implicitDefEqProofs only [go_sem, z1, z2, z3, z4, z5, z6, z7, z8, z9, za, zb, zc, ↓reduceIte, *]) | first | ((with_reducible refine enter_pu (c1) ?_ ?_ ?_); (· rfl); (· rfl); try simp -implicitDefEqProofs only [go_sem, z1, z2, z3, z4, z5, z6, z7, z8, z9, za, zb, zc, ↓reduceIte, *]) | ((with_reducible refine enter_pu (c2) ?_ ?_ ?_); (· rfl); (· rfl); try simp -implicitDefEqProofs only [go_sem, z1, z2, z3, z4, z5, z6, z7, z8, z9, za, zb, zc, ↓reduceIte, *])))
    exact fin_pu rfl rfl
  · rw [hok] at c1
    rcases hp : isIn page 0 4 with _ | _
    · rw [hp] at c2
      simp -implicitDefEqProofs only [go_sem, z1, z2, z3, z4, z5, z6, z7, z8, z9, za, zb, zc, ↓reduceIte, Tryz.f15]
      (repeat' (first | ((with_reducible first | refine gon ?_ ?_ | refine gos ?_ ?_ | refine cdn ?_ ?_ | refine cds ?_ ?_ | refine gpn ?_ ?_ | refine gps ?_ ?_) <;> intro h <;> (try simp only [dt, df, gi, gt] at h) <;> try simp -implicitDefEqProofs only [go_sem, z1, z2, z3, z4, z5, z6, z7, z8, z9, za, zb, zc, ↓reduceIte, *]) | ((with_reducible refine And.intro ?_ ?_); (· first | omega | (simp only [List.length_take]; omega)); try simp -implicitDefEqProofs only [go_sem, z1, z2, z3, z4, z5, z6, z7, z8, z9, za, zb, zc, ↓reduceIte, *]) | first | ((with_reducible refine enter_pu (c1) ?_ ?_ ?_); (· rfl); (· rfl); try simp -implicitDefEqProofs only [go_sem, z1, z2, z3, z4, z5, z6, z7, z8, z9, za, zb, zc, ↓reduceIte, *]) | ((with_reducible refine enter_pu (c2) ?_ ?_ ?_); (· rfl); (· rfl); try simp -implicitDefEqProofs only [go_sem, z1, z2, z3, z4, z5, z6, z7, z8, z9, za, zb, zc, ↓reduceIte, *])))
      exact fin_pu rfl rfl
    · rw [hp] at c2
      have c3 := locks_fn lastC (pagesC lastC) e.log page (wf_of (okE_log hok))
      rw [lastBy_lock (okE_held hok (by simpa [isIn] using hp))] at c3
      simp -implicitDefEqProofs only [go_sem, z1, z2, z3, z4, z5, z6, z7, z8, z9, za, zb, zc, ↓reduceIte, Tryz.f15]
      (repeat' (first | ((with_reducible first | refine gon ?_ ?_ | refine gos ?_ ?_ | refine cdn ?_ ?_ | refine cds ?_ ?_ | refine gpn ?_ ?_ | refine gps ?_ ?_) <;> intro h <;> (try simp only [dt, df, gi, gt] at h) <;> try simp -implicitDefEqProofs only [go_sem, z1, z2, z3, z4, z5, z6, z7, z8, z9, za, zb, zc, ↓reduceIte, *]) | ((with_reducible refine And.intro ?_ ?_); (· first | omega | (simp only [List.length_take]; omega)); try simp -implicitDefEqProofs only [go_sem, z1, z2, z3, z4, z5, z6, z7, z8, z9, za, zb, zc, ↓reduceIte, *]) | first | ((with_reducible refine enter_pu (c1) ?_ ?_ ?_); (· rfl); (· rfl); try simp -implicitDefEqProofs only [go_sem, z1, z2, z3, z4, z5, z6, z7, z8, z9, za, zb, zc, ↓reduceIte, *]) | ((with_reducible refine enter_pu (c2) ?_ ?_ ?_); (· rfl); (· rfl); try simp -implicitDefEqProofs only [go_sem, z1, z2, z3, z4, z5, z6, z7, z8, z9, za, zb, zc, ↓reduceIte, *]) | ((with_reducible refine enter_pu (c3) ?_ ?_ ?_); (· rfl); (· rfl); try simp -implicitDefEqProofs only [go_sem, z1, z2, z3, z4, z5, z6, z7, z8, z9, za, zb, zc, ↓reduceIte, *])))
      exact fin_pu rfl rfl
end Go.Proofs.YtcpfcpfikinbmaaGreat.Am
end
section
set_option linter.unusedVariables false
set_option linter.unusedSimpArgs false
set_option maxRecDepth 100000
set_option maxHeartbeats 8000000
namespace Go.Proofs.YtcpfcpfikinbmaaGreat.Am
open Go Go.RowKit Go.Proofs
attribute [local congr] opsP_congr codeP_congr AWP_congr afterR_congr preP_congr afterPre_congr gPre_congr gOps_congr condP_congr stepE_congr
attribute [local go_sem] ty_int ty_bool ty_str ty_u8 ty_ints ty_bytes ty_page ty_pages ty_lpage ty_lpages ty_rec ty_recs ty_lrec ty_lrecs ty_eng ty_leng
attribute [local go_sem] true_and and_true beq_true' beq_false' toNat_cast Int.natCast_nonneg Bool.not_not Bool.not_true Bool.not_false decide_true decide_false Bool.or_false Bool.false_or Bool.or_true Bool.true_or Bool.and_false Bool.false_and Nat.zero_add Int.toNat_of_nonneg wrap_succ wrap_m1 wrap_nat succ_m1 cast0 succ_pos' succ_ne' succ_bne' ge_iff_le gt_iff_lt if_true if_false
attribute [local go_sem] slt_r slt_I slt_p ty_rd ty_ev ty_evs
end Go.Proofs.YtcpfcpfikinbmaaGreat.Am
end
section
set_option linter.unusedVariables false
set_option linter.unusedSimpArgs false
set_option maxRecDepth 100000
set_option maxHeartbeats 8000000
namespace Go.Proofs.YtcpfcpfikinbmaaGreat.Am
open Go Go.RowKit Go.Proofs
open Nat renaming reduceAdd → z1, reduceSub → z2, reduceMul → z3, reduceLT → z4, reduceLeDiff → z5, reduceEqDiff → z6
open Int renaming reduceBEq → z7, reduceBNe → z8, reduceNeg → z9, reduceSub → za, reduceLE → zb, reduceLT → zc
attribute [local congr] opsP_congr codeP_congr AWP_congr afterR_congr preP_congr afterPre_congr gPre_congr gOps_congr condP_congr stepE_congr
attribute [local go_sem] ty_int ty_bool ty_str ty_u8 ty_ints ty_bytes ty_page ty_pages ty_lpage ty_lpages ty_rec ty_recs ty_lrec ty_lrecs ty_eng ty_leng
attribute [local go_sem] true_and and_true beq_true' beq_false' toNat_cast Int.natCast_nonneg Bool.not_not Bool.not_true Bool.not_false decide_true decide_false Bool.or_false Bool.false_or Bool.or_true Bool.true_or Bool.and_false Bool.false_and Nat.zero_add Int.toNat_of_nonneg wrap_succ wrap_m1 wrap_nat succ_m1 cast0 succ_pos' succ_ne' succ_bne' ge_iff_le gt_iff_lt if_true if_false
attribute [local go_sem] slt_r slt_I slt_p ty_rd ty_ev ty_evs
theorem LogOpenS_fn (l : List Rc) (hl : l.length < 4611686018427387904) : Fn1 Tryz.prog 86 [recs l] (ints (openL l)) := by
  have c1 := LogOk_fn l hl
  refine fn1_of Tryz.func86 rfl rfl ?_
  unfold openL
  rcases hok : logOk l with _ | _
  · rw [hok] at c1
    simp -implicitDefEqProofs only [go_sem, z1, z2, z3, z4, z5, z6, z7, z8, z9, za, zb, zc, ↓reduceIte, Tryz.f86]
    (repeat' (first | ((with_reducible first | refine gon ?_ ?_ | refine gos ?_ ?_ | refine cdn ?_ ?_ | refine cds ?_ ?_ | refine gpn ?_ ?_ | refine gps ?_ ?_) <;> intro h <;> (try simp only [dt, df, gi, gt] at h) <;> try simp -implicitDefEqProofs only [go_sem, z1, z2, z3, z4, z5, z6, z7, z8, z9, za, zb, zc, ↓reduceIte, *]) | ((with_reducible refine And.intro ?_ ?_); (· first | omega | (simp only [List.length_take]; omega)); try simp -implicitDefEqProofs only [go_sem, z1, z2, z3, z4, z5, z6, z7, z8, z9, za, zb, zc, ↓reduceIte, *]) | ((with_reducible refine enter_pu (c1) ?_ ?_ ?_); (· rfl); (· rfl); try simp -implicitDefEqProofs only [go_sem, z1, z2, z3, z4, z5, z6, z7, z8, z9, za, zb, zc, ↓reduceIte, *])))
    exact fin_1 (argT0 (arg0_I (l := []) rfl rfl))
  · rw [hok] at c1
    rw [if_pos rfl]
    simp -implicitDefEqProofs only [go_sem, z1, z2, z3, z4, z5, z6, z7, z8, z9, za, zb, zc, ↓reduceIte, Tryz.f86]
    (repeat' (first | ((with_reducible first | refine gon ?_ ?_ | refine gos ?_ ?_ | refine cdn ?_ ?_ | refine cds ?_ ?_ | refine gpn ?_ ?_ | refine gps ?_ ?_) <;> intro h <;> (try simp only [dt, df, gi, gt] at h) <;> try simp -implicitDefEqProofs only [go_sem, z1, z2, z3, z4, z5, z6, z7, z8, z9, za, zb, zc, ↓reduceIte, *]) | ((with_reducible refine And.intro ?_ ?_); (· first | omega | (simp only [List.length_take]; omega)); try simp -implicitDefEqProofs only [go_sem, z1, z2, z3, z4, z5, z6, z7, z8, z9, za, zb, zc, ↓reduceIte, *]) | ((with_reducible refine enter_pu (c1) ?_ ?_ ?_); (· rfl); (· rfl); try simp -implicitDefEqProofs only [go_sem, z1, z2, z3, z4, z5, z6, z7, z8, z9, za, zb, zc, ↓reduceIte, *])))
    clear c1
    refine cp_loop (fun t : Nat => ⟨(recs l :: .any :: nilS :: .own 0 1 0 (openTo l t).length :: I (((t + 1 : Nat) : Int)) :: .any :: .any :: .any :: .any :: .any :: .any :: .any :: .any :: .any :: .any :: .any :: .any :: .any :: .any :: .any :: .any :: .any :: .any :: []), [some ⟨1, (openTo l t).map I⟩], [0]⟩) (fun t => t ≤ 3) (fun t => 3 - t) 0 ?_ ?_ ?_
    · simp
    · refine WkN.trans (WkN.trans (wk_tm ?_) (wk_trunc (S := [some ⟨1, _⟩]) (Nat.le_refl _) rfl (by first | rfl | (simp only [sltB, List.all_cons, List.all_nil, slt_p, slt_I, slt_r, Bool.and_true]; done) | (simp only [sltB, List.all_cons, List.all_nil, slt_p, slt_I, slt_r, Bool.and_true]; rfl)))) (wk_mv (by simp)); repeat (first | exact WL.nil | (with_reducible refine WL.any _ _ _ ?_) | (with_reducible refine WL.same _ _ _ ?_) | (refine WL.eq _ _ _ _ rfl ?_))
    · rintro t hi
      have hb : t + 1 < 4611686018427387904 := by omega
      have hlen := openTo_len l t
      have c3 := l3Last_fn l ((t + 1 : Nat) : Int) hl
      simp -implicitDefEqProofs only [go_sem, z1, z2, z3, z4, z5, z6, z7, z8, z9, za, zb, zc, ↓reduceIte, true_and]
      (repeat' (first | ((with_reducible first | refine gon ?_ ?_ | refine gos ?_ ?_ | refine cdn ?_ ?_ | refine cds ?_ ?_ | refine gpn ?_ ?_ | refine gps ?_ ?_) <;> intro h <;> (try simp only [dt, df, gi, gt] at h) <;> try simp -implicitDefEqProofs only [go_sem, z1, z2, z3, z4, z5, z6, z7, z8, z9, za, zb, zc, ↓reduceIte, *]) | ((with_reducible refine And.intro ?_ ?_); (· first | omega | (simp only [List.length_take]; omega)); try simp -implicitDefEqProofs only [go_sem, z1, z2, z3, z4, z5, z6, z7, z8, z9, za, zb, zc, ↓reduceIte, *]) | ((with_reducible refine enter_pu (c3) ?_ ?_ ?_); (· rfl); (· rfl); try simp -implicitDefEqProofs only [go_sem, z1, z2, z3, z4, z5, z6, z7, z8, z9, za, zb, zc, ↓reduceIte, *])))
      · have e : openTo l (t + 1) = openTo l t ++ [((t + 1 : Nat) : Int)] := if_neg (by omega)
        refine ⟨t + 1, by omega, by omega, ?_⟩
        simp only [e, List.length_append, List.length_cons, List.length_nil]
        refine WkN.trans (WkN.trans (wk_tm ?_) (wk_trunc (S := [some ⟨1, _⟩]) (Nat.le_refl _) rfl (by first | rfl | (simp only [sltB, List.all_cons, List.all_nil, slt_p, slt_I, slt_r, Bool.and_true]; done) | (simp only [sltB, List.all_cons, List.all_nil, slt_p, slt_I, slt_r, Bool.and_true]; rfl)))) (wk_mv (by simp)); repeat (first | exact WL.nil | (with_reducible refine WL.any _ _ _ ?_) | (with_reducible refine WL.same _ _ _ ?_) | (refine WL.eq _ _ _ _ rfl ?_))
      · have e : openTo l (t + 1) = openTo l t := if_pos (by omega)
        refine ⟨t + 1, by omega, by omega, ?_⟩
        simp only [e]
        refine wk_tm ?_; repeat (first | exact WL.nil | (with_reducible refine WL.any _ _ _ ?_) | (with_reducible refine WL.same _ _ _ ?_) | (refine WL.eq _ _ _ _ rfl ?_))
      · have e : t = 3 := by omega
        subst e
        exact fin_1 (argT0 (arg0_I rfl rfl))
theorem EngineLockS_fn (e : Eng) (page : Int) (h : e.small) : Fn1 Tryz.prog 17 [eA e, I page] (I (lockE e page)) := by
  have c1 := okS e h
  have c2 := l6In_fn page 0 4
  refine fn1_of Tryz.func17 rfl rfl ?_
  unfold lockE
  rcases hok : okE e with _ | _
  · rw [if_neg (by simp)]
    rw [hok] at c1
    simp -implicitDefEqProofs only [go_sem, z1, z2, z3, z4, z5, z6, z7, z8, z9, za, zb, zc, ↓reduceIte, Tryz.f17]
    (repeat' (first | ((with_reducible first | refine gon ?_ ?_ | refine gos ?_ ?_ | refine cdn ?_ ?_ | refine cds ?_ ?_ | refine gpn ?_ ?_ | refine gps ?_ ?_) <;> intro h <;> (try simp only [dt, df, gi, gt] at h) <;> try simp -implicitDefEqProofs only [go_sem, z1, z2, z3, z4, z5, z6, z7, z8, z9, za, zb, zc, ↓reduceIte, *]) | ((with_reducible refine And.intro ?_ ?_); (· first | omega | (simp only [List.length_take]; omega)); try simp -implicitDefEqProofs only [go_sem, z1, z2, z3, z4, z5, z6, z7, z8, z9, za, zb, zc, ↓reduceIte, *]) | first | ((with_reducible refine enter_pu (c1) ?_ ?_ ?_); (· rfl); (· rfl); try simp -implicitDefEqProofs only [go_sem, z1, z2, z3, z4, z5, z6, z7, z8, z9, za, zb, zc, ↓reduceIte, *]) | ((with_reducible refine enter_pu (c2) ?_ ?_ ?_); (· rfl); (· rfl); try simp -implicitDefEqProofs only [go_sem, z1, z2, z3, z4, z5, z6, z7, z8, z9, za, zb, zc, ↓reduceIte, *])))
    exact fin_pu rfl rfl
  rw [hok] at c1
  rcases hin : isIn page 0 4 with _ | _
  · rw [if_neg (by simp)]
    rw [hin] at c2
    simp -implicitDefEqProofs only [go_sem, z1, z2, z3, z4, z5, z6, z7, z8, z9, za, zb, zc, ↓reduceIte, Tryz.f17]
    (repeat' (first | ((with_reducible first | refine gon ?_ ?_ | refine gos ?_ ?_ | refine cdn ?_ ?_ | refine cds ?_ ?_ | refine gpn ?_ ?_ | refine gps ?_ ?_) <;> intro h <;> (try simp only [dt, df, gi, gt] at h) <;> try simp -implicitDefEqProofs only [go_sem, z1, z2, z3, z4, z5, z6, z7, z8, z9, za, zb, zc, ↓reduceIte, *]) | ((with_reducible refine And.intro ?_ ?_); (· first | omega | (simp only [List.length_take]; omega)); try simp -implicitDefEqProofs only [go_sem, z1, z2, z3, z4, z5, z6, z7, z8, z9, za, zb, zc, ↓reduceIte, *]) | first | ((with_reducible refine enter_pu (c1) ?_ ?_ ?_); (· rfl); (· rfl); try simp -implicitDefEqProofs only [go_sem, z1, z2, z3, z4, z5, z6, z7, z8, z9, za, zb, zc, ↓reduceIte, *]) | ((with_reducible refine enter_pu (c2) ?_ ?_ ?_); (· rfl); (· rfl); try simp -implicitDefEqProofs only [go_sem, z1, z2, z3, z4, z5, z6, z7, z8, z9, za, zb, zc, ↓reduceIte, *])))
    exact fin_pu rfl rfl
  rw [hin] at c2
  rw [if_pos ⟨rfl, rfl⟩]
  have c3 := l11Lock_fn e page (inv_of_ok hok).wf
  simp -implicitDefEqProofs only [go_sem, z1, z2, z3, z4, z5, z6, z7, z8, z9, za, zb, zc, ↓reduceIte, Tryz.f17]
  (repeat' (first | ((with_reducible first | refine gon ?_ ?_ | refine gos ?_ ?_ | refine cdn ?_ ?_ | refine cds ?_ ?_ | refine gpn ?_ ?_ | refine gps ?_ ?_) <;> intro h <;> (try simp only [dt, df, gi, gt] at h) <;> try simp -implicitDefEqProofs only [go_sem, z1, z2, z3, z4, z5, z6, z7, z8, z9, za, zb, zc, ↓reduceIte, *]) | ((with_reducible refine And.intro ?_ ?_); (· first | omega | (simp only [List.length_take]; omega)); try simp -implicitDefEqProofs only [go_sem, z1, z2, z3, z4, z5, z6, z7, z8, z9, za, zb, zc, ↓reduceIte, *]) | first | ((with_reducible refine enter_pu (c1) ?_ ?_ ?_); (· rfl); (· rfl); try simp -implicitDefEqProofs only [go_sem, z1, z2, z3, z4, z5, z6, z7, z8, z9, za, zb, zc, ↓reduceIte, *]) | ((with_reducible refine enter_pu (c2) ?_ ?_ ?_); (· rfl); (· rfl); try simp -implicitDefEqProofs only [go_sem, z1, z2, z3, z4, z5, z6, z7, z8, z9, za, zb, zc, ↓reduceIte, *]) | ((with_reducible refine enter_pu (c3) ?_ ?_ ?_); (· rfl); (· rfl); try simp -implicitDefEqProofs only [go_sem, z1, z2, z3, z4, z5, z6, z7, z8, z9, za, zb, zc, ↓reduceIte, *])))
  exact fin_pu rfl rfl
theorem fin_up {l : List Int} {T : Store} {p p' : Nat} {e : Eng} (hd : e.dr) (q1 : p ≤ p') (q2 : p' ≤ p + 12000) :
    Fin 1 (eA e) (oR l p' :: T) [] (fun r S' mv => ∃ y : Eng × Nat, (y.1.dr ∧ p ≤ y.2 ∧ y.2 ≤ p + 12000) ∧ r = eA y.1 ∧ S' = [oR l y.2] ∧ mv = []) :=
  fin_drop [0] [] (by simp) rfl (by decide) (keep1 (ob := ⟨2, [.agg [bts l, I (p' : Int)]]⟩) rfl (a2_1 rfl)) (hdR (o := ⟨2, [.agg [bts l, I (p' : Int)]]⟩) rfl (by simp) rfl rfl)
    (rd_same rfl) ⟨(e, p'), ⟨hd, q1, q2⟩, rfl, rfl, rfl⟩
theorem l72Up_c (l : List Int) (p : Nat) (hC : Cod l) (hp : p < 500000) : AFnX Tryz.prog 44 [.ref 0 2 0 0] [oR l p] (fun q : Eng × Nat => q.1.dr ∧ p ≤ q.2 ∧ q.2 ≤ p + 12000) (fun q => eA q.1) (fun q => [oR l q.2]) [] := by
  refine afnx_of Tryz.func44 rfl rfl ?_
  simp -implicitDefEqProofs only [go_sem, z1, z2, z3, z4, z5, z6, z7, z8, z9, za, zb, zc, ↓reduceIte, Tryz.f44]
  (repeat' (first | ((with_reducible first | refine gon ?_ ?_ | refine gos ?_ ?_ | refine cdn ?_ ?_ | refine cds ?_ ?_ | refine gpn ?_ ?_ | refine gps ?_ ?_) <;> intro h <;> (try simp only [dt, df, gi, gt] at h) <;> try simp -implicitDefEqProofs only [go_sem, z1, z2, z3, z4, z5, z6, z7, z8, z9, za, zb, zc, ↓reduceIte, *]) | ((with_reducible refine And.intro ?_ ?_); (· first | omega | (simp only [List.length_take]; omega)); try simp -implicitDefEqProofs only [go_sem, z1, z2, z3, z4, z5, z6, z7, z8, z9, za, zb, zc, ↓reduceIte, *]) | ((with_reducible refine at_reader (l72Engine_c l p hC (by omega)) (fun _ _ => rfl) ?_); rintro ⟨e, p2⟩ ⟨h0, h1, h2⟩; simp only at *; try simp -implicitDefEqProofs only [go_sem, z1, z2, z3, z4, z5, z6, z7, z8, z9, za, zb, zc, ↓reduceIte, *])))
  refine cp_loop (fun q : Nat × Nat × Eng => ⟨(.ref 0 2 0 0 :: .any :: .ref 1 5 0 0 :: .ref 2 5 0 0 :: I (q.1 : Int) :: .any :: .any :: .any :: .any :: .any :: .any :: .any :: .any :: .any :: .any :: .any :: .any :: .any :: .any :: .any :: .any :: .any :: .any :: .any :: .any :: .any :: .any :: .any :: .any :: .any :: []), [oR l q.2.1, some ⟨5, [.agg [.prim (.slice none 0 0), .prim (.slice none 0 0), .prim (.slice none 0 0), I 0, Bo false]]⟩, some ⟨5, [eA q.2.2]⟩], []⟩) (fun q => q.1 ≤ 5 ∧ q.2.2.dr ∧ p ≤ q.2.1 ∧ q.2.1 ≤ p + 1800 + 1801 * q.1) (fun q => 5 - q.1) (0, p2, e) ?_ ?_ ?_
  · exact ⟨by simp only; omega, h0, by simp only; omega, by simp only; omega⟩
  · refine wk_tm ?_; repeat (first | exact WL.nil | (with_reducible refine WL.any _ _ _ ?_) | (with_reducible refine WL.same _ _ _ ?_) | (refine WL.eq _ _ _ _ rfl ?_))
  · rintro ⟨i, p', e'⟩ ⟨hi, hdr, hp1, hp2⟩
    simp only at hi hdr hp1 hp2
    clear h0 h1 h2
    have hib : i < 4611686018427387904 := by omega
    obtain ⟨ea, eb, ec, es, ed⟩ := e'
    have c1 := LogOpenS_fn ec (dr_small hdr).log
    simp only
    by_cases hil : i < 5
    · have hl1 : (i : Int) < 5 := by omega
      rcases ed with _ | _
      all_goals
       simp -implicitDefEqProofs only [go_sem, z1, z2, z3, z4, z5, z6, z7, z8, z9, za, zb, zc, ↓reduceIte, hl1, hib]
       (repeat' (first | ((with_reducible first | refine gon ?_ ?_ | refine gos ?_ ?_ | refine cdn ?_ ?_ | refine cds ?_ ?_ | refine gpn ?_ ?_ | refine gps ?_ ?_) <;> intro h <;> (try simp only [dt, df, gi, gt] at h) <;> try simp -implicitDefEqProofs only [go_sem, z1, z2, z3, z4, z5, z6, z7, z8, z9, za, zb, zc, ↓reduceIte, *]) | ((with_reducible refine And.intro ?_ ?_); (· first | omega | (simp only [List.length_take]; omega)); try simp -implicitDefEqProofs only [go_sem, z1, z2, z3, z4, z5, z6, z7, z8, z9, za, zb, zc, ↓reduceIte, *]) | first | ((with_reducible refine pick_at hC ?_ ?_ ?_); (· omega); (· first | decide | omega); rintro k hk; try simp -implicitDefEqProofs only [go_sem, z1, z2, z3, z4, z5, z6, z7, z8, z9, za, zb, zc, ↓reduceIte, *]) | ((with_reducible refine enter_pu (c1) ?_ ?_ ?_); (· rfl); (· rfl); try simp -implicitDefEqProofs only [go_sem, z1, z2, z3, z4, z5, z6, z7, z8, z9, za, zb, zc, ↓reduceIte, *]) | ((with_reducible refine at_reader (l72Engine_c l (p' + 1) hC (by omega)) (fun _ _ => rfl) ?_); rintro ⟨e2, p3⟩ ⟨h0, h1, h2⟩; simp only at *; try simp -implicitDefEqProofs only [go_sem, z1, z2, z3, z4, z5, z6, z7, z8, z9, za, zb, zc, ↓reduceIte, *])))
       all_goals first
        | exact fin_up hdr (by omega) (by omega)
        | (refine ⟨(i + 1, p3, e2), ⟨by simp only; omega, h0, by simp only; omega, by simp only; omega⟩, by simp only; omega, ?_⟩; refine wk_tm ?_; repeat (first | exact WL.nil | (with_reducible refine WL.any _ _ _ ?_) | (with_reducible refine WL.same _ _ _ ?_) | (refine WL.eq _ _ _ _ rfl ?_)))
    · have hl1 : ¬ (i : Int) < 5 := by omega
      simp -implicitDefEqProofs only [go_sem, z1, z2, z3, z4, z5, z6, z7, z8, z9, za, zb, zc, ↓reduceIte, hl1]
      (repeat' (first | ((with_reducible first | refine gon ?_ ?_ | refine gos ?_ ?_ | refine cdn ?_ ?_ | refine cds ?_ ?_ | refine gpn ?_ ?_ | refine gps ?_ ?_) <;> intro h <;> (try simp only [dt, df, gi, gt] at h) <;> try simp -implicitDefEqProofs only [go_sem, z1, z2, z3, z4, z5, z6, z7, z8, z9, za, zb, zc, ↓reduceIte, *]) | ((with_reducible refine And.intro ?_ ?_); (· first | omega | (simp only [List.length_take]; omega)); try simp -implicitDefEqProofs only [go_sem, z1, z2, z3, z4, z5, z6, z7, z8, z9, za, zb, zc, ↓reduceIte, *]) | fail))
      exact fin_up hdr (by omega) (by omega)
theorem DrawEngineForce_c (l : List Int) (hl : l.length < 4611686018427387904) (hb : Byt l) : FnX 20 [bts l] (fun e : Eng => e.dr) eA := by
  refine afnx_of Tryz.func20 rfl rfl ?_
  simp -implicitDefEqProofs only [go_sem, z1, z2, z3, z4, z5, z6, z7, z8, z9, za, zb, zc, ↓reduceIte, Tryz.f20]
  (repeat' (first | ((with_reducible first | refine gon ?_ ?_ | refine gos ?_ ?_ | refine cdn ?_ ?_ | refine cds ?_ ?_ | refine gpn ?_ ?_ | refine gps ?_ ?_) <;> intro h <;> (try simp only [dt, df, gi, gt] at h) <;> try simp -implicitDefEqProofs only [go_sem, z1, z2, z3, z4, z5, z6, z7, z8, z9, za, zb, zc, ↓reduceIte, *]) | ((with_reducible refine And.intro ?_ ?_); (· first | omega | (simp only [List.length_take]; omega)); try simp -implicitDefEqProofs only [go_sem, z1, z2, z3, z4, z5, z6, z7, z8, z9, za, zb, zc, ↓reduceIte, *]) | ((with_reducible refine enter_at ([] : List Nat) (M2 := []) (l6Open_c l hl hb) (by decide) ?_ ?_ rfl ?_); (· repeat (first | exact Keeps.nil | (refine Keeps.cons _ _ _ _ _ rfl rfl ?_ ?_; (· first | exact a2_p _ _ | exact a2_1 rfl | exact a2_I _ _)))); (· repeat (first | exact All2.nil | (refine All2.cons _ _ _ _ ?_ ?_; (· first | exact rnT_eX rfl rfl | exact rnT_prim | exact rnT_sl | exact rnT_ref rfl | exact rnT_agg rfl | exact rnT_own rfl | exact rnT_eX5 rfl rfl)))); rintro l' hC; try simp -implicitDefEqProofs only [go_sem, z1, z2, z3, z4, z5, z6, z7, z8, z9, za, zb, zc, ↓reduceIte, *])))
  (repeat' (first | ((with_reducible first | refine gon ?_ ?_ | refine gos ?_ ?_ | refine cdn ?_ ?_ | refine cds ?_ ?_ | refine gpn ?_ ?_ | refine gps ?_ ?_) <;> intro h <;> (try simp only [dt, df, gi, gt] at h) <;> try simp -implicitDefEqProofs only [go_sem, z1, z2, z3, z4, z5, z6, z7, z8, z9, za, zb, zc, ↓reduceIte, *]) | ((with_reducible refine And.intro ?_ ?_); (· first | omega | (simp only [List.length_take]; omega)); try simp -implicitDefEqProofs only [go_sem, z1, z2, z3, z4, z5, z6, z7, z8, z9, za, zb, zc, ↓reduceIte, *]) | ((with_reducible refine at_readerI (i := 1) ?_ (l72Up_c l' 0 hC (by omega)) (fun _ _ => rfl) ?_); (· rfl); rintro ⟨e, p2⟩ ⟨h0, h1, h2⟩; simp only at *; try simp -implicitDefEqProofs only [go_sem, z1, z2, z3, z4, z5, z6, z7, z8, z9, za, zb, zc, ↓reduceIte, *])))
  exact fin_drawn (rd_same rfl) ⟨e, h0, rfl, rfl, rfl⟩
theorem rd_ei {S : Store} {e : Eng} {b : Int} : RdT [] S 0 (.tup [eA e, I b]) (.tup [eA e, I b]) := .tup _ _ (.cons _ _ _ _ (.agg _ _ (.cons _ _ _ _ (.rn _ _ (.same _ rfl)) (.cons _ _ _ _ (.rn _ _ (.same _ rfl)) (.cons _ _ _ _ (.rn _ _ (.same _ rfl)) (.cons _ _ _ _ (.rn _ _ (.same _ rfl)) (.cons _ _ _ _ (.rn _ _ (.same _ rfl)) .nil)))))) (.cons _ _ _ _ (.of _ _ (.rn _ _ (.same _ rfl))) .nil))
theorem DrawEngineLock_c (l : List Int) (hl : l.length < 4611686018427387904) (hb : Byt l) : FnX 16 [bts l] (fun q : Eng × Int => q.1.dr) (fun q => .tup [eA q.1, I q.2]) := by
  refine afnx_of Tryz.func16 rfl rfl ?_
  simp -implicitDefEqProofs only [go_sem, z1, z2, z3, z4, z5, z6, z7, z8, z9, za, zb, zc, ↓reduceIte, Tryz.f16]
  (repeat' (first | ((with_reducible first | refine gon ?_ ?_ | refine gos ?_ ?_ | refine cdn ?_ ?_ | refine cds ?_ ?_ | refine gpn ?_ ?_ | refine gps ?_ ?_) <;> intro h <;> (try simp only [dt, df, gi, gt] at h) <;> try simp -implicitDefEqProofs only [go_sem, z1, z2, z3, z4, z5, z6, z7, z8, z9, za, zb, zc, ↓reduceIte, *]) | ((with_reducible refine And.intro ?_ ?_); (· first | omega | (simp only [List.length_take]; omega)); try simp -implicitDefEqProofs only [go_sem, z1, z2, z3, z4, z5, z6, z7, z8, z9, za, zb, zc, ↓reduceIte, *]) | ((with_reducible refine enter_at ([] : List Nat) (M2 := []) (l6Open_c l hl hb) (by decide) ?_ ?_ rfl ?_); (· repeat (first | exact Keeps.nil | (refine Keeps.cons _ _ _ _ _ rfl rfl ?_ ?_; (· first | exact a2_p _ _ | exact a2_1 rfl | exact a2_I _ _)))); (· repeat (first | exact All2.nil | (refine All2.cons _ _ _ _ ?_ ?_; (· first | exact rnT_eX rfl rfl | exact rnT_prim | exact rnT_sl | exact rnT_ref rfl | exact rnT_agg rfl | exact rnT_own rfl | exact rnT_eX5 rfl rfl)))); rintro l' hC; try simp -implicitDefEqProofs only [go_sem, z1, z2, z3, z4, z5, z6, z7, z8, z9, za, zb, zc, ↓reduceIte, *])))
  (repeat' (first | ((with_reducible first | refine gon ?_ ?_ | refine gos ?_ ?_ | refine cdn ?_ ?_ | refine cds ?_ ?_ | refine gpn ?_ ?_ | refine gps ?_ ?_) <;> intro h <;> (try simp only [dt, df, gi, gt] at h) <;> try simp -implicitDefEqProofs only [go_sem, z1, z2, z3, z4, z5, z6, z7, z8, z9, za, zb, zc, ↓reduceIte, *]) | ((with_reducible refine And.intro ?_ ?_); (· first | omega | (simp only [List.length_take]; omega)); try simp -implicitDefEqProofs only [go_sem, z1, z2, z3, z4, z5, z6, z7, z8, z9, za, zb, zc, ↓reduceIte, *]) | ((with_reducible refine at_readerI (i := 1) ?_ (l72Up_c l' 0 hC (by omega)) (fun _ _ => rfl) ?_); (· rfl); rintro ⟨e, p2⟩ ⟨h0, h1, h2⟩; simp only at *; try simp -implicitDefEqProofs only [go_sem, z1, z2, z3, z4, z5, z6, z7, z8, z9, za, zb, zc, ↓reduceIte, *])))
  have hsm := dr_small h0
  refine cp_loop (fun q : Nat × Nat => ⟨(bts l :: .any :: .ref 0 5 0 0 :: I 0 :: .ref 1 2 0 0 :: .ref 2 5 0 0 :: I (q.1 : Int) :: .any :: .any :: .any :: .any :: .any :: .any :: .any :: .any :: .any :: .any :: .any :: .any :: .any :: .any :: .any :: .any :: .any :: .any :: .any :: .any :: .any :: .any :: .any :: .any :: .any :: .any :: []), [some ⟨5, [.agg [.prim (.slice none 0 0), .prim (.slice none 0 0), .prim (.slice none 0 0), I 0, Bo false]]⟩, oR l' q.2, some ⟨5, [eA e]⟩], []⟩) (fun q => q.1 ≤ 6 ∧ q.2 ≤ 12000 + 2 * q.1) (fun q => 6 - q.1) (0, p2) ?_ ?_ ?_
  · exact ⟨by simp only; omega, by simp only; omega⟩
  · refine wk_tm ?_; repeat (first | exact WL.nil | (with_reducible refine WL.any _ _ _ ?_) | (with_reducible refine WL.same _ _ _ ?_) | (refine WL.eq _ _ _ _ rfl ?_))
  · rintro ⟨i, p⟩ ⟨hi, hp⟩
    simp only at hi hp
    have hib : i < 4611686018427387904 := by omega
    simp only
    by_cases hil : i < 6
    · have hl1 : (i : Int) < 6 := by omega
      simp -implicitDefEqProofs only [go_sem, z1, z2, z3, z4, z5, z6, z7, z8, z9, za, zb, zc, ↓reduceIte, hl1, hib]
      (repeat' (first | ((with_reducible first | refine gon ?_ ?_ | refine gos ?_ ?_ | refine cdn ?_ ?_ | refine cds ?_ ?_ | refine gpn ?_ ?_ | refine gps ?_ ?_) <;> intro h <;> (try simp only [dt, df, gi, gt] at h) <;> try simp -implicitDefEqProofs only [go_sem, z1, z2, z3, z4, z5, z6, z7, z8, z9, za, zb, zc, ↓reduceIte, *]) | ((with_reducible refine And.intro ?_ ?_); (· first | omega | (simp only [List.length_take]; omega)); try simp -implicitDefEqProofs only [go_sem, z1, z2, z3, z4, z5, z6, z7, z8, z9, za, zb, zc, ↓reduceIte, *]) | first | ((refine pick_atI (i := 1) hC rfl ?_ ?_ ?_); (· omega); (· first | decide | omega); rintro k hk; try simp -implicitDefEqProofs only [go_sem, z1, z2, z3, z4, z5, z6, z7, z8, z9, za, zb, zc, ↓reduceIte, *]) | ((with_reducible refine enter_pu (EngineLockS_fn e _ hsm) ?_ ?_ ?_); (· rfl); (· rfl); try simp -implicitDefEqProofs only [go_sem, z1, z2, z3, z4, z5, z6, z7, z8, z9, za, zb, zc, ↓reduceIte, *])))
      · exact fin_drawn rd_ei ⟨(e, _), h0, rfl, rfl, rfl⟩
      · refine ⟨(i + 1, p + 1 + 1), ⟨by simp only; omega, by simp only; omega⟩, by simp only; omega, ?_⟩
        refine wk_tm ?_; repeat (first | exact WL.nil | (with_reducible refine WL.any _ _ _ ?_) | (with_reducible refine WL.same _ _ _ ?_) | (refine WL.eq _ _ _ _ rfl ?_))
      · refine cp_drawG (id := 9) 6 (fun S => getO S 2 = some ⟨5, [eA e]⟩) mixed rfl ?_
        ((refine expG_get 0 (eA e) rfl ?_ ?_ ?_ ?_ ?_); (· decide +kernel); (· decide +kernel); (· rfl); (· (intro S hS0; simp -implicitDefEqProofs only [go_sem, z1, z2, z3, z4, z5, z6, z7, z8, z9, za, zb, zc, ↓reduceIte, hS0, *])); try simp -implicitDefEqProofs only [go_sem, z1, z2, z3, z4, z5, z6, z7, z8, z9, za, zb, zc, ↓reduceIte, List.set_cons_succ, List.set_cons_zero])
        ((refine expG_get 1 (.ref 1 2 0 0) rfl ?_ ?_ ?_ ?_ ?_); (· decide +kernel); (· decide +kernel); (· rfl); (· (intro S hS0; simp -implicitDefEqProofs only [go_sem, z1, z2, z3, z4, z5, z6, z7, z8, z9, za, zb, zc, ↓reduceIte, hS0, *])); try simp -implicitDefEqProofs only [go_sem, z1, z2, z3, z4, z5, z6, z7, z8, z9, za, zb, zc, ↓reduceIte, List.set_cons_succ, List.set_cons_zero])
        ((with_reducible refine expG_one 2 ?_ ?_); (· decide +kernel); try simp -implicitDefEqProofs only [go_sem, z1, z2, z3, z4, z5, z6, z7, z8, z9, za, zb, zc, ↓reduceIte, *])
        ((refine pick_atI (i := 1) hC rfl ?_ ?_ ?_); (· omega); (· first | decide | omega); rintro k5 hk5; try simp -implicitDefEqProofs only [go_sem, z1, z2, z3, z4, z5, z6, z7, z8, z9, za, zb, zc, ↓reduceIte, *])
        (repeat' (first | ((with_reducible first | refine gon ?_ ?_ | refine gos ?_ ?_ | refine cdn ?_ ?_ | refine cds ?_ ?_ | refine gpn ?_ ?_ | refine gps ?_ ?_) <;> intro h <;> (try simp only [dt, df, gi, gt] at h) <;> try simp -implicitDefEqProofs only [go_sem, z1, z2, z3, z4, z5, z6, z7, z8, z9, za, zb, zc, ↓reduceIte, *]) | ((with_reducible refine And.intro ?_ ?_); (· first | omega | (simp only [List.length_take]; omega)); try simp -implicitDefEqProofs only [go_sem, z1, z2, z3, z4, z5, z6, z7, z8, z9, za, zb, zc, ↓reduceIte, *]) | first | ((with_reducible refine expG_two 3 4 ?_ ?_ ?_); (· decide +kernel); all_goals (try simp -implicitDefEqProofs only [go_sem, z1, z2, z3, z4, z5, z6, z7, z8, z9, za, zb, zc, ↓reduceIte, *])) | ((with_reducible refine expG_one 3 ?_ ?_); (· decide +kernel); try simp -implicitDefEqProofs only [go_sem, z1, z2, z3, z4, z5, z6, z7, z8, z9, za, zb, zc, ↓reduceIte, *]) | ((with_reducible refine expG_one 4 ?_ ?_); (· decide +kernel); try simp -implicitDefEqProofs only [go_sem, z1, z2, z3, z4, z5, z6, z7, z8, z9, za, zb, zc, ↓reduceIte, *]) | ((with_reducible refine expG_one 5 ?_ ?_); (· decide +kernel); try simp -implicitDefEqProofs only [go_sem, z1, z2, z3, z4, z5, z6, z7, z8, z9, za, zb, zc, ↓reduceIte, *]) | ((with_reducible refine expG_end ?_ ?_); (· decide +kernel); try simp -implicitDefEqProofs only [go_sem, z1, z2, z3, z4, z5, z6, z7, z8, z9, za, zb, zc, ↓reduceIte, *])))
        all_goals exact fin_drawn rd_ei ⟨(e, _), h0, rfl, rfl, rfl⟩
    · have hl1 : ¬ (i : Int) < 6 := by omega
      simp -implicitDefEqProofs only [go_sem, z1, z2, z3, z4, z5, z6, z7, z8, z9, za, zb, zc, ↓reduceIte, hl1]
      (repeat' (first | ((with_reducible first | refine gon ?_ ?_ | refine gos ?_ ?_ | refine cdn ?_ ?_ | refine cds ?_ ?_ | refine gpn ?_ ?_ | refine gps ?_ ?_) <;> intro h <;> (try simp only [dt, df, gi, gt] at h) <;> try simp -implicitDefEqProofs only [go_sem, z1, z2, z3, z4, z5, z6, z7, z8, z9, za, zb, zc, ↓reduceIte, *]) | ((with_reducible refine And.intro ?_ ?_); (· first | omega | (simp only [List.length_take]; omega)); try simp -implicitDefEqProofs only [go_sem, z1, z2, z3, z4, z5, z6, z7, z8, z9, za, zb, zc, ↓reduceIte, *]) | fail))
      refine cp_drawG (id := 9) 6 (fun S => getO S 2 = some ⟨5, [eA e]⟩) mixed rfl ?_
      ((refine expG_get 0 (eA e) rfl ?_ ?_ ?_ ?_ ?_); (· decide +kernel); (· decide +kernel); (· rfl); (· (intro S hS0; simp -implicitDefEqProofs only [go_sem, z1, z2, z3, z4, z5, z6, z7, z8, z9, za, zb, zc, ↓reduceIte, hS0, *])); try simp -implicitDefEqProofs only [go_sem, z1, z2, z3, z4, z5, z6, z7, z8, z9, za, zb, zc, ↓reduceIte, List.set_cons_succ, List.set_cons_zero])
      ((refine expG_get 1 (.ref 1 2 0 0) rfl ?_ ?_ ?_ ?_ ?_); (· decide +kernel); (· decide +kernel); (· rfl); (· (intro S hS0; simp -implicitDefEqProofs only [go_sem, z1, z2, z3, z4, z5, z6, z7, z8, z9, za, zb, zc, ↓reduceIte, hS0, *])); try simp -implicitDefEqProofs only [go_sem, z1, z2, z3, z4, z5, z6, z7, z8, z9, za, zb, zc, ↓reduceIte, List.set_cons_succ, List.set_cons_zero])
      ((with_reducible refine expG_one 2 ?_ ?_); (· decide +kernel); try simp -implicitDefEqProofs only [go_sem, z1, z2, z3, z4, z5, z6, z7, z8, z9, za, zb, zc, ↓reduceIte, *])
      ((refine pick_atI (i := 1) hC rfl ?_ ?_ ?_); (· omega); (· first | decide | omega); rintro k5 hk5; try simp -implicitDefEqProofs only [go_sem, z1, z2, z3, z4, z5, z6, z7, z8, z9, za, zb, zc, ↓reduceIte, *])
      (repeat' (first | ((with_reducible first | refine gon ?_ ?_ | refine gos ?_ ?_ | refine cdn ?_ ?_ | refine cds ?_ ?_ | refine gpn ?_ ?_ | refine gps ?_ ?_) <;> intro h <;> (try simp only [dt, df, gi, gt] at h) <;> try simp -implicitDefEqProofs only [go_sem, z1, z2, z3, z4, z5, z6, z7, z8, z9, za, zb, zc, ↓reduceIte, *]) | ((with_reducible refine And.intro ?_ ?_); (· first | omega | (simp only [List.length_take]; omega)); try simp -implicitDefEqProofs only [go_sem, z1, z2, z3, z4, z5, z6, z7, z8, z9, za, zb, zc, ↓reduceIte, *]) | first | ((with_reducible refine expG_two 3 4 ?_ ?_ ?_); (· decide +kernel); all_goals (try simp -implicitDefEqProofs only [go_sem, z1, z2, z3, z4, z5, z6, z7, z8, z9, za, zb, zc, ↓reduceIte, *])) | ((with_reducible refine expG_one 3 ?_ ?_); (· decide +kernel); try simp -implicitDefEqProofs only [go_sem, z1, z2, z3, z4, z5, z6, z7, z8, z9, za, zb, zc, ↓reduceIte, *]) | ((with_reducible refine expG_one 4 ?_ ?_); (· decide +kernel); try simp -implicitDefEqProofs only [go_sem, z1, z2, z3, z4, z5, z6, z7, z8, z9, za, zb, zc, ↓reduceIte, *]) | ((with_reducible refine expG_one 5 ?_ ?_); (· decide +kernel); try simp -implicitDefEqProofs only [go_sem, z1, z2, z3, z4, z5, z6, z7, z8, z9, za, zb, zc, ↓reduceIte, *]) | ((with_reducible refine expG_end ?_ ?_); (· decide +kernel); try simp -implicitDefEqProofs only [go_sem, z1, z2, z3, z4, z5, z6, z7, z8, z9, za, zb, zc, ↓reduceIte, *])))
      all_goals exact fin_drawn rd_ei ⟨(e, _), h0, rfl, rfl, rfl⟩
end Go.Proofs.YtcpfcpfikinbmaaGreat.Am
end
section
set_option linter.unusedVariables false
set_option linter.unusedSimpArgs false
set_option maxRecDepth 100000
set_option maxHeartbeats 8000000
namespace Go.Proofs.YtcpfcpfikinbmaaGreat.Am
open Go Go.RowKit Go.Proofs
open Nat renaming reduceAdd → z1, reduceSub → z2, reduceMul → z3, reduceLT → z4, reduceLeDiff → z5, reduceEqDiff → z6
open Int renaming reduceBEq → z7, reduceBNe → z8, reduceNeg → z9, reduceSub → za, reduceLE → zb, reduceLT → zc
attribute [local congr] opsP_congr codeP_congr AWP_congr afterR_congr preP_congr afterPre_congr gPre_congr gOps_congr condP_congr stepE_congr
attribute [local go_sem] ty_int ty_bool ty_str ty_u8 ty_ints ty_bytes ty_page ty_pages ty_lpage ty_lpages ty_rec ty_recs ty_lrec ty_lrecs ty_eng ty_leng
attribute [local go_sem] true_and and_true beq_true' beq_false' toNat_cast Int.natCast_nonneg Bool.not_not Bool.not_true Bool.not_false decide_true decide_false Bool.or_false Bool.false_or Bool.or_true Bool.true_or Bool.and_false Bool.false_and Nat.zero_add Int.toNat_of_nonneg wrap_succ wrap_m1 wrap_nat succ_m1 cast0 succ_pos' succ_ne' succ_bne' ge_iff_le gt_iff_lt if_true if_false
attribute [local go_sem] slt_r slt_I slt_p ty_rd ty_ev ty_evs
end Go.Proofs.YtcpfcpfikinbmaaGreat.Am
end
section
set_option linter.unusedVariables false
set_option linter.unusedSimpArgs false
set_option maxRecDepth 100000
set_option maxHeartbeats 8000000
namespace Go.Proofs.YtcpfcpfikinbmaaGreat.Am
open Go Go.RowKit Go.Proofs
open Nat renaming reduceAdd → z1, reduceSub → z2, reduceMul → z3, reduceLT → z4, reduceLeDiff → z5, reduceEqDiff → z6
open Int renaming reduceBEq → z7, reduceBNe → z8, reduceNeg → z9, reduceSub → za, reduceLE → zb, reduceLT → zc
attribute [local congr] opsP_congr codeP_congr AWP_congr afterR_congr preP_congr afterPre_congr gPre_congr gOps_congr condP_congr stepE_congr
attribute [local go_sem] ty_int ty_bool ty_str ty_u8 ty_ints ty_bytes ty_page ty_pages ty_lpage ty_lpages ty_rec ty_recs ty_lrec ty_lrecs ty_eng ty_leng
attribute [local go_sem] true_and and_true beq_true' beq_false' toNat_cast Int.natCast_nonneg Bool.not_not Bool.not_true Bool.not_false decide_true decide_false Bool.or_false Bool.false_or Bool.or_true Bool.true_or Bool.and_false Bool.false_and Nat.zero_add Int.toNat_of_nonneg wrap_succ wrap_m1 wrap_nat succ_m1 cast0 succ_pos' succ_ne' succ_bne' ge_iff_le gt_iff_lt if_true if_false
attribute [local go_sem] slt_r slt_I slt_p ty_rd ty_ev ty_evs
def pagesL (l : List Rc) (tx : Int) : List Int := if logOk l = true then (pagesC lastC).pg l tx (fun _ => true) else []
theorem LogPagesI_fn (l : List Rc) (tx : Int) (hl : l.length < 4611686018427387904) : Fn1 Tryz.prog 19 [recs l, I tx] (ints (pagesL l tx)) := by
  have c1 := LogOkI_fn recC l hl
  refine fn1_of Tryz.func19 rfl rfl ?_
  unfold pagesL
  rcases hok : logOk l with _ | _
  · rw [hok] at c1
    simp -implicitDefEqProofs only [go_sem, z1, z2, z3, z4, z5, z6, z7, z8, z9, za, zb, zc, ↓reduceIte, Tryz.f19]
    (repeat' (first | ((with_reducible first | refine gon ?_ ?_ | refine gos ?_ ?_ | refine cdn ?_ ?_ | refine cds ?_ ?_ | refine gpn ?_ ?_ | refine gps ?_ ?_) <;> intro h <;> (try simp only [dt, df, gi, gt] at h) <;> try simp -implicitDefEqProofs only [go_sem, z1, z2, z3, z4, z5, z6, z7, z8, z9, za, zb, zc, ↓reduceIte, *]) | ((with_reducible refine And.intro ?_ ?_); (· first | omega | (simp only [List.length_take]; omega)); try simp -implicitDefEqProofs only [go_sem, z1, z2, z3, z4, z5, z6, z7, z8, z9, za, zb, zc, ↓reduceIte, *]) | ((with_reducible refine enter_pu (c1) ?_ ?_ ?_); (· rfl); (· rfl); try simp -implicitDefEqProofs only [go_sem, z1, z2, z3, z4, z5, z6, z7, z8, z9, za, zb, zc, ↓reduceIte, *])))
    exact fin_drawn (.of _ _ (.of _ _ (.nil 1 (by decide)))) ⟨⟨rfl, rfl⟩, rfl⟩
  · rw [hok] at c1
    rw [if_pos rfl]
    have c2 := (pagesC lastC).fn l tx 63 (fun _ => true) (wf_of hok) all_fn
    simp -implicitDefEqProofs only [go_sem, z1, z2, z3, z4, z5, z6, z7, z8, z9, za, zb, zc, ↓reduceIte, Tryz.f19]
    (repeat' (first | ((with_reducible first | refine gon ?_ ?_ | refine gos ?_ ?_ | refine cdn ?_ ?_ | refine cds ?_ ?_ | refine gpn ?_ ?_ | refine gps ?_ ?_) <;> intro h <;> (try simp only [dt, df, gi, gt] at h) <;> try simp -implicitDefEqProofs only [go_sem, z1, z2, z3, z4, z5, z6, z7, z8, z9, za, zb, zc, ↓reduceIte, *]) | ((with_reducible refine And.intro ?_ ?_); (· first | omega | (simp only [List.length_take]; omega)); try simp -implicitDefEqProofs only [go_sem, z1, z2, z3, z4, z5, z6, z7, z8, z9, za, zb, zc, ↓reduceIte, *]) | first | ((with_reducible refine enter_pu (c1) ?_ ?_ ?_); (· rfl); (· rfl); try simp -implicitDefEqProofs only [go_sem, z1, z2, z3, z4, z5, z6, z7, z8, z9, za, zb, zc, ↓reduceIte, *]) | ((with_reducible refine enter_pu (c2) ?_ ?_ ?_); (· rfl); (· rfl); try simp -implicitDefEqProofs only [go_sem, z1, z2, z3, z4, z5, z6, z7, z8, z9, za, zb, zc, ↓reduceIte, *])))
    exact fin_pu rfl rfl
def amongB (l : List Int) (n : Int) : Bool := anyFrom (fun k => at' l k == n) 0 l.length
theorem ltAmong_fn (l : List Int) (n : Int) (hl : l.length < 4611686018427387904) : Fn1 Tryz.prog 18 [ints l, I n] (Bo (amongB l n)) := by
  refine fn1_of Tryz.func18 rfl rfl ?_
  simp -implicitDefEqProofs only [go_sem, z1, z2, z3, z4, z5, z6, z7, z8, z9, za, zb, zc, ↓reduceIte, Tryz.f18]
  refine cp_loop (fun i : Nat => ⟨(ints l :: I n :: .any :: .any :: Bo false :: I (i : Int) :: .any :: .any :: .any :: .any :: .any :: .any :: .any :: .any :: .any :: .any :: .any :: .any :: []), [], []⟩) (fun i => i ≤ l.length ∧ anyFrom (fun k => at' l k == n) i l.length = amongB l n) (fun i => l.length - i) 0 ?_ ?_ ?_
  · exact ⟨Nat.zero_le _, rfl⟩
  · refine wk_tm ?_; repeat (first | exact WL.nil | (with_reducible refine WL.any _ _ _ ?_) | (with_reducible refine WL.same _ _ _ ?_) | (refine WL.eq _ _ _ _ rfl ?_))
  · rintro i ⟨hi, hg⟩
    have hb : i < 4611686018427387904 := by omega
    by_cases hil : i < l.length
    · have hil' : (i : Int) < (l.length : Int) := by omega
      rw [anyFrom_lt hil] at hg
      rcases h : at' l (i : Int) == n with _ | _
      · simp -implicitDefEqProofs only [go_sem, z1, z2, z3, z4, z5, z6, z7, z8, z9, za, zb, zc, ↓reduceIte, hil']
        (repeat' (first | ((with_reducible first | refine gon ?_ ?_ | refine gos ?_ ?_ | refine cdn ?_ ?_ | refine cds ?_ ?_ | refine gpn ?_ ?_ | refine gps ?_ ?_) <;> intro h <;> (try simp only [dt, df, gi, gt] at h) <;> try simp -implicitDefEqProofs only [go_sem, z1, z2, z3, z4, z5, z6, z7, z8, z9, za, zb, zc, ↓reduceIte, *]) | ((with_reducible refine And.intro ?_ ?_); (· first | omega | (simp only [List.length_take]; omega)); try simp -implicitDefEqProofs only [go_sem, z1, z2, z3, z4, z5, z6, z7, z8, z9, za, zb, zc, ↓reduceIte, *]) | fail))
        refine ⟨i + 1, ⟨by omega, ?_⟩, by omega, ?_⟩
        · rw [← hg, h, Bool.false_or]
        · refine wk_tm ?_; repeat (first | exact WL.nil | (with_reducible refine WL.any _ _ _ ?_) | (with_reducible refine WL.same _ _ _ ?_) | (refine WL.eq _ _ _ _ rfl ?_))
      · simp -implicitDefEqProofs only [go_sem, z1, z2, z3, z4, z5, z6, z7, z8, z9, za, zb, zc, ↓reduceIte, hil']
        (repeat' (first | ((with_reducible first | refine gon ?_ ?_ | refine gos ?_ ?_ | refine cdn ?_ ?_ | refine cds ?_ ?_ | refine gpn ?_ ?_ | refine gps ?_ ?_) <;> intro h <;> (try simp only [dt, df, gi, gt] at h) <;> try simp -implicitDefEqProofs only [go_sem, z1, z2, z3, z4, z5, z6, z7, z8, z9, za, zb, zc, ↓reduceIte, *]) | ((with_reducible refine And.intro ?_ ?_); (· first | omega | (simp only [List.length_take]; omega)); try simp -implicitDefEqProofs only [go_sem, z1, z2, z3, z4, z5, z6, z7, z8, z9, za, zb, zc, ↓reduceIte, *]) | fail))
        refine fin_pu ?_ rfl
        rw [← hg, h]
        rfl
    · have hil' : ¬ (i : Int) < (l.length : Int) := by omega
      rw [anyFrom_ge hil] at hg
      simp -implicitDefEqProofs only [go_sem, z1, z2, z3, z4, z5, z6, z7, z8, z9, za, zb, zc, ↓reduceIte, hil']
      (repeat' (first | ((with_reducible first | refine gon ?_ ?_ | refine gos ?_ ?_ | refine cdn ?_ ?_ | refine cds ?_ ?_ | refine gpn ?_ ?_ | refine gps ?_ ?_) <;> intro h <;> (try simp only [dt, df, gi, gt] at h) <;> try simp -implicitDefEqProofs only [go_sem, z1, z2, z3, z4, z5, z6, z7, z8, z9, za, zb, zc, ↓reduceIte, *]) | ((with_reducible refine And.intro ?_ ?_); (· first | omega | (simp only [List.length_take]; omega)); try simp -implicitDefEqProofs only [go_sem, z1, z2, z3, z4, z5, z6, z7, z8, z9, za, zb, zc, ↓reduceIte, *]) | fail))
      refine fin_pu ?_ rfl
      rw [← hg]
theorem among_iff {l : List Int} {n : Int} : amongB l n = true ↔ n ∈ l := by
  unfold amongB
  rw [anyFrom_iff]
  constructor
  · rintro ⟨k, _, h1, h2⟩
    have : at' l (k : Int) = n := by simpa using h2
    rw [← this]
    exact at_mem l k h1
  · intro h
    obtain ⟨k, hk, e⟩ := List.mem_iff_getElem.1 h
    exact ⟨k, Nat.zero_le _, hk, by simp [at', List.getD, hk, e]⟩
theorem pagesL_mem {l : List Rc} (h : logOk l = true) (tx page : Int) : amongB (pagesL l tx) page = hasIn l tx page := by
  rw [Bool.eq_iff_iff, among_iff]
  unfold pagesL
  rw [if_pos h, (pagesC lastC).mem]
  unfold hasIn
  rw [List.any_eq_true]
  constructor
  · rintro ⟨n, h1, _, h2⟩
    exact ⟨n, h1, by simpa using h2⟩
  · rintro ⟨n, h1, h2⟩
    exact ⟨n, h1, rfl, by simpa using h2⟩
theorem pagesL_len {l : List Rc} (h : logOk l = true) (tx : Int) : (pagesL l tx).length < 4611686018427387904 := by
  unfold pagesL
  rw [if_pos h]
  have := (pagesC lastC).len l tx (fun _ => true) (wf_of h)
  omega
theorem lock_has {l : List Rc} {p : Int} (h : heldTo l p 3 ≤ 1) {t : Nat} (ht : t < 3) (hh : hasIn l ((t + 1 : Nat) : Int) p = true) : lockFrom l p 0 = t + 1 := by
  rw [lockFrom_lt (by omega), lockFrom_lt (by omega), lockFrom_lt (by omega), lockFrom_ge (by omega)]
  simp only [heldTo] at h
  have : t = 0 ∨ t = 1 ∨ t = 2 := by omega
  rcases this with rfl | rfl | rfl
  · rw [if_pos hh]
  · rw [if_pos hh] at h
    rw [if_pos hh]
    by_cases h1 : hasIn l ((0 + 1 : Nat) : Int) p = true
    · rw [if_pos h1] at h; omega
    · rw [if_neg h1]
  · rw [if_pos hh] at h
    rw [if_pos hh]
    by_cases h1 : hasIn l ((0 + 1 : Nat) : Int) p = true
    · rw [if_pos h1] at h; omega
    · rw [if_neg h1]
      by_cases h2 : hasIn l ((1 + 1 : Nat) : Int) p = true
      · rw [if_pos h2] at h; omega
      · rw [if_neg h2]
theorem lock_none {l : List Rc} {p : Int} (h : heldTo l p 3 = 0) : lockFrom l p 0 = 0 := by
  rw [lockFrom_lt (by omega), lockFrom_lt (by omega), lockFrom_lt (by omega), lockFrom_ge (by omega)]
  simp only [heldTo] at h
  by_cases h1 : hasIn l ((0 + 1 : Nat) : Int) p = true
  · rw [if_pos h1] at h; omega
  · by_cases h2 : hasIn l ((1 + 1 : Nat) : Int) p = true
    · rw [if_pos h2] at h; omega
    · by_cases h3 : hasIn l ((2 + 1 : Nat) : Int) p = true
      · rw [if_pos h3] at h; omega
      · rw [if_neg h1, if_neg h2, if_neg h3]
theorem lockE_in {e : Eng} (hok : okE e = true) {p : Nat} (hp : p < 5) : lockE e (p : Int) = lockFrom e.log (p : Int) 0 := if_pos ⟨hok, by unfold isIn; simp; omega⟩
theorem lockE_out {e : Eng} {page : Int} (h : page < 0 ∨ 4 < page) : lockE e page = 0 := if_neg (by unfold isIn; simp; omega)
theorem held_le (l : List Rc) (p : Int) : ∀ t, heldTo l p t ≤ t
  | 0 => Nat.le_refl _
  | t + 1 => by
    have := held_le l p t
    unfold heldTo
    split <;> omega
theorem Lock_law (l : List Int) (hl : l.length < 4611686018427387904) (hb : Byt l) : Fn1 Tryz.prog 4 [bts l] (Bo true) := by
  refine fn1_of Tryz.func4 rfl rfl ?_
  by_cases hlen : (1048576 : Int) < (l.length : Int)
  · simp -implicitDefEqProofs only [go_sem, z1, z2, z3, z4, z5, z6, z7, z8, z9, za, zb, zc, ↓reduceIte, Tryz.f4, hlen]
    exact fin_pu rfl rfl
  simp -implicitDefEqProofs only [go_sem, z1, z2, z3, z4, z5, z6, z7, z8, z9, za, zb, zc, ↓reduceIte, Tryz.f4, hlen]
  (repeat' (first | ((with_reducible first | refine gon ?_ ?_ | refine gos ?_ ?_ | refine cdn ?_ ?_ | refine cds ?_ ?_ | refine gpn ?_ ?_ | refine gps ?_ ?_) <;> intro h <;> (try simp only [dt, df, gi, gt] at h) <;> try simp -implicitDefEqProofs only [go_sem, z1, z2, z3, z4, z5, z6, z7, z8, z9, za, zb, zc, ↓reduceIte, *]) | ((with_reducible refine And.intro ?_ ?_); (· first | omega | (simp only [List.length_take]; omega)); try simp -implicitDefEqProofs only [go_sem, z1, z2, z3, z4, z5, z6, z7, z8, z9, za, zb, zc, ↓reduceIte, *]) | ((with_reducible refine enter_at ([] : List Nat) (M2 := []) (DrawEngineLock_c l hl hb) (by decide) ?_ ?_ rfl ?_); (· repeat (first | exact Keeps.nil | (refine Keeps.cons _ _ _ _ _ rfl rfl ?_ ?_; (· first | exact a2_p _ _ | exact a2_1 rfl | exact a2_I _ _)))); (· repeat (first | exact All2.nil | (refine All2.cons _ _ _ _ ?_ ?_; (· first | exact rnT_eX rfl rfl | exact rnT_prim | exact rnT_sl | exact rnT_ref rfl | exact rnT_agg rfl | exact rnT_own rfl | exact rnT_eX5 rfl rfl)))); rintro ⟨e, page⟩ hdr; try simp -implicitDefEqProofs only [go_sem, z1, z2, z3, z4, z5, z6, z7, z8, z9, za, zb, zc, ↓reduceIte, *])))
  simp only at hdr
  obtain ⟨ea, eb, ec, es, ed⟩ := e
  have hsm := dr_small hdr
  have c1 := EngineLockI_fn _ page hsm
  have c2 := EngineLockS_fn _ page hsm
  have c3 := okS _ hsm
  have e1 : (((lockE ⟨ea, eb, ec, es, ed⟩ page : Nat) : Int) != ((lockE ⟨ea, eb, ec, es, ed⟩ page : Nat) : Int)) = false := by simp
  have e2 : (((lockE ⟨ea, eb, ec, es, ed⟩ page : Nat) : Int) == ((lockE ⟨ea, eb, ec, es, ed⟩ page : Nat) : Int)) = true := by simp
  obtain ⟨ok, hok⟩ : ∃ ok, okE ⟨ea, eb, ec, es, ed⟩ = ok := ⟨_, rfl⟩
  rw [hok] at c3
  rcases ok with _ | _
  · (repeat' (first | ((with_reducible first | refine gon ?_ ?_ | refine gos ?_ ?_ | refine cdn ?_ ?_ | refine cds ?_ ?_ | refine gpn ?_ ?_ | refine gps ?_ ?_) <;> intro h <;> (try simp only [dt, df, gi, gt] at h) <;> try simp -implicitDefEqProofs only [go_sem, z1, z2, z3, z4, z5, z6, z7, z8, z9, za, zb, zc, ↓reduceIte, *]) | ((with_reducible refine And.intro ?_ ?_); (· first | omega | (simp only [List.length_take]; omega)); try simp -implicitDefEqProofs only [go_sem, z1, z2, z3, z4, z5, z6, z7, z8, z9, za, zb, zc, ↓reduceIte, *]) | first | ((with_reducible refine enter_pu (c1) ?_ ?_ ?_); (· rfl); (· rfl); try simp -implicitDefEqProofs only [go_sem, z1, z2, z3, z4, z5, z6, z7, z8, z9, za, zb, zc, ↓reduceIte, *]) | ((with_reducible refine enter_pu (c2) ?_ ?_ ?_); (· rfl); (· rfl); try simp -implicitDefEqProofs only [go_sem, z1, z2, z3, z4, z5, z6, z7, z8, z9, za, zb, zc, ↓reduceIte, *]) | ((with_reducible refine enter_pu (c3) ?_ ?_ ?_); (· rfl); (· rfl); try simp -implicitDefEqProofs only [go_sem, z1, z2, z3, z4, z5, z6, z7, z8, z9, za, zb, zc, ↓reduceIte, *])))
    all_goals exact fin_pu rfl rfl
  (repeat' (first | ((with_reducible first | refine gon ?_ ?_ | refine gos ?_ ?_ | refine cdn ?_ ?_ | refine cds ?_ ?_ | refine gpn ?_ ?_ | refine gps ?_ ?_) <;> intro h <;> (try simp only [dt, df, gi, gt] at h) <;> try simp -implicitDefEqProofs only [go_sem, z1, z2, z3, z4, z5, z6, z7, z8, z9, za, zb, zc, ↓reduceIte, *]) | ((with_reducible refine And.intro ?_ ?_); (· first | omega | (simp only [List.length_take]; omega)); try simp -implicitDefEqProofs only [go_sem, z1, z2, z3, z4, z5, z6, z7, z8, z9, za, zb, zc, ↓reduceIte, *]) | first | ((with_reducible refine enter_pu (c1) ?_ ?_ ?_); (· rfl); (· rfl); try simp -implicitDefEqProofs only [go_sem, z1, z2, z3, z4, z5, z6, z7, z8, z9, za, zb, zc, ↓reduceIte, *]) | ((with_reducible refine enter_pu (c2) ?_ ?_ ?_); (· rfl); (· rfl); try simp -implicitDefEqProofs only [go_sem, z1, z2, z3, z4, z5, z6, z7, z8, z9, za, zb, zc, ↓reduceIte, *]) | ((with_reducible refine enter_pu (c3) ?_ ?_ ?_); (· rfl); (· rfl); try simp -implicitDefEqProofs only [go_sem, z1, z2, z3, z4, z5, z6, z7, z8, z9, za, zb, zc, ↓reduceIte, *])))
  clear c1 c2 c3 e1 e2
  have hlog : logOk ec = true := (okE_iff.1 hok).log
  have hll : ec.length < 4611686018427387904 := hsm.log
  refine cp_loop (fun p : Nat => ⟨(bts l :: .any :: Bo false :: .ref 0 5 0 0 :: .any :: .any :: I (p : Int) :: .any :: .any :: .any :: .any :: .any :: .any :: .any :: .any :: .any :: .any :: .any :: .any :: .any :: .any :: .any :: .any :: .any :: .any :: .any :: .any :: .any :: .any :: .any :: .any :: .any :: .any :: .any :: .any :: .any :: .any :: .any :: .any :: .any :: .any :: .any :: .any :: .any :: .any :: .any :: .any :: .any :: .any :: .any :: .any :: .any :: .any :: .any :: .any :: .any :: .any :: .any :: .any :: .any :: .any :: .any :: .any :: .any :: .any :: .any :: .any :: .any :: .any :: .any :: .any :: []), [some ⟨5, [eA ⟨ea, eb, ec, es, ed⟩]⟩], []⟩) (fun p => p ≤ 5) (fun p => 5 - p) 0 ?_ ?_ ?_
  · simp
  · refine wk_tm ?_; repeat (first | exact WL.nil | (with_reducible refine WL.any _ _ _ ?_) | (with_reducible refine WL.same _ _ _ ?_) | (refine WL.eq _ _ _ _ rfl ?_))
  · rintro p hp
    have hpb : p < 4611686018427387904 := by omega
    by_cases hpl : p < 5
    · have hl1 : (p : Int) < 5 := by omega
      have hheld : heldTo ec (p : Int) 3 ≤ 1 := okE_held hok (by omega)
      have c4 := EngineLockI_fn ⟨ea, eb, ec, es, ed⟩ (p : Int) hsm
      rw [lockE_in hok hpl] at c4
      simp -implicitDefEqProofs only [go_sem, z1, z2, z3, z4, z5, z6, z7, z8, z9, za, zb, zc, ↓reduceIte, hl1]
      refine cp_loop (fun t : Nat => ⟨(bts l :: .any :: Bo false :: .ref 0 5 0 0 :: .any :: .any :: I (p : Int) :: I (heldTo ec (p : Int) t : Int) :: I ((t + 1 : Nat) : Int) :: .any :: .any :: .any :: .any :: .any :: .any :: .any :: .any :: .any :: .any :: .any :: .any :: .any :: .any :: .any :: .any :: .any :: .any :: .any :: .any :: .any :: .any :: .any :: .any :: .any :: .any :: .any :: .any :: .any :: .any :: .any :: .any :: .any :: .any :: .any :: .any :: .any :: .any :: .any :: .any :: .any :: .any :: .any :: .any :: .any :: .any :: .any :: .any :: .any :: .any :: .any :: .any :: .any :: .any :: .any :: .any :: .any :: .any :: .any :: .any :: .any :: .any :: []), [some ⟨5, [eA ⟨ea, eb, ec, es, ed⟩]⟩], []⟩) (fun t => t ≤ 3) (fun t => 3 - t) 0 ?_ ?_ ?_
      · simp
      · refine wk_tm ?_; repeat (first | exact WL.nil | (with_reducible refine WL.any _ _ _ ?_) | (with_reducible refine WL.same _ _ _ ?_) | (refine WL.eq _ _ _ _ rfl ?_))
      · rintro t ht
        have htb : t + 1 < 4611686018427387904 := by omega
        by_cases htl : t < 3
        · have hl2 : ((t + 1 : Nat) : Int) ≤ 3 := by omega
          have c5 := LogPagesI_fn ec ((t + 1 : Nat) : Int) hll
          have c6 := ltAmong_fn (pagesL ec ((t + 1 : Nat) : Int)) (p : Int) (pagesL_len hlog _)
          rw [pagesL_mem hlog] at c6
          have hle := held_le ec (p : Int) t
          rcases hh : hasIn ec ((t + 1 : Nat) : Int) (p : Int) with _ | _
          · rw [hh] at c6
            have e3 : heldTo ec (p : Int) (t + 1) = heldTo ec (p : Int) t := by rw [heldTo, hh]; simp
            simp -implicitDefEqProofs only [go_sem, z1, z2, z3, z4, z5, z6, z7, z8, z9, za, zb, zc, ↓reduceIte, hl2, htb]
            (repeat' (first | ((with_reducible first | refine gon ?_ ?_ | refine gos ?_ ?_ | refine cdn ?_ ?_ | refine cds ?_ ?_ | refine gpn ?_ ?_ | refine gps ?_ ?_) <;> intro h <;> (try simp only [dt, df, gi, gt] at h) <;> try simp -implicitDefEqProofs only [go_sem, z1, z2, z3, z4, z5, z6, z7, z8, z9, za, zb, zc, ↓reduceIte, *]) | ((with_reducible refine And.intro ?_ ?_); (· first | omega | (simp only [List.length_take]; omega)); try simp -implicitDefEqProofs only [go_sem, z1, z2, z3, z4, z5, z6, z7, z8, z9, za, zb, zc, ↓reduceIte, *]) | first | ((with_reducible refine enter_pu (c5) ?_ ?_ ?_); (· rfl); (· rfl); try simp -implicitDefEqProofs only [go_sem, z1, z2, z3, z4, z5, z6, z7, z8, z9, za, zb, zc, ↓reduceIte, *]) | ((with_reducible refine enter_pu (c6) ?_ ?_ ?_); (· rfl); (· rfl); try simp -implicitDefEqProofs only [go_sem, z1, z2, z3, z4, z5, z6, z7, z8, z9, za, zb, zc, ↓reduceIte, *])))
            refine ⟨t + 1, by omega, by omega, ?_⟩
            rw [e3]
            refine wk_tm ?_; repeat (first | exact WL.nil | (with_reducible refine WL.any _ _ _ ?_) | (with_reducible refine WL.same _ _ _ ?_) | (refine WL.eq _ _ _ _ rfl ?_))
          · rw [hh] at c6
            have e3 : heldTo ec (p : Int) (t + 1) = heldTo ec (p : Int) t + 1 := by rw [heldTo, hh]; simp
            have e4 := lock_has hheld htl hh
            rw [e4] at c4
            have e5 : (((t + 1 : Nat) : Int) != ((t + 1 : Nat) : Int)) = false := by simp
            have hhb : heldTo ec (p : Int) t < 4611686018427387904 := by omega
            simp -implicitDefEqProofs only [go_sem, z1, z2, z3, z4, z5, z6, z7, z8, z9, za, zb, zc, ↓reduceIte, hl2, htb]
            (repeat' (first | ((with_reducible first | refine gon ?_ ?_ | refine gos ?_ ?_ | refine cdn ?_ ?_ | refine cds ?_ ?_ | refine gpn ?_ ?_ | refine gps ?_ ?_) <;> intro h <;> (try simp only [dt, df, gi, gt] at h) <;> try simp -implicitDefEqProofs only [go_sem, z1, z2, z3, z4, z5, z6, z7, z8, z9, za, zb, zc, ↓reduceIte, *]) | ((with_reducible refine And.intro ?_ ?_); (· first | omega | (simp only [List.length_take]; omega)); try simp -implicitDefEqProofs only [go_sem, z1, z2, z3, z4, z5, z6, z7, z8, z9, za, zb, zc, ↓reduceIte, *]) | first | ((with_reducible refine enter_pu (c5) ?_ ?_ ?_); (· rfl); (· rfl); try simp -implicitDefEqProofs only [go_sem, z1, z2, z3, z4, z5, z6, z7, z8, z9, za, zb, zc, ↓reduceIte, *]) | ((with_reducible refine enter_pu (c6) ?_ ?_ ?_); (· rfl); (· rfl); try simp -implicitDefEqProofs only [go_sem, z1, z2, z3, z4, z5, z6, z7, z8, z9, za, zb, zc, ↓reduceIte, *]) | ((with_reducible refine enter_pu (c4) ?_ ?_ ?_); (· rfl); (· rfl); try simp -implicitDefEqProofs only [go_sem, z1, z2, z3, z4, z5, z6, z7, z8, z9, za, zb, zc, ↓reduceIte, *])))
            refine ⟨t + 1, by omega, by omega, ?_⟩
            rw [e3]
            refine wk_tm ?_; repeat (first | exact WL.nil | (with_reducible refine WL.any _ _ _ ?_) | (with_reducible refine WL.same _ _ _ ?_) | (refine WL.eq _ _ _ _ rfl ?_))
        · have hl2 : ¬ ((t + 1 : Nat) : Int) ≤ 3 := by omega
          have e3 : t = 3 := by omega
          subst e3
          have h01 : heldTo ec (p : Int) 3 = 0 ∨ heldTo ec (p : Int) 3 = 1 := by omega
          rcases h01 with h0 | h0
          · rw [lock_none h0] at c4
            simp -implicitDefEqProofs only [go_sem, z1, z2, z3, z4, z5, z6, z7, z8, z9, za, zb, zc, ↓reduceIte, hl2, hpb, h0]
            (repeat' (first | ((with_reducible first | refine gon ?_ ?_ | refine gos ?_ ?_ | refine cdn ?_ ?_ | refine cds ?_ ?_ | refine gpn ?_ ?_ | refine gps ?_ ?_) <;> intro h <;> (try simp only [dt, df, gi, gt] at h) <;> try simp -implicitDefEqProofs only [go_sem, z1, z2, z3, z4, z5, z6, z7, z8, z9, za, zb, zc, ↓reduceIte, *]) | ((with_reducible refine And.intro ?_ ?_); (· first | omega | (simp only [List.length_take]; omega)); try simp -implicitDefEqProofs only [go_sem, z1, z2, z3, z4, z5, z6, z7, z8, z9, za, zb, zc, ↓reduceIte, *]) | ((with_reducible refine enter_pu (c4) ?_ ?_ ?_); (· rfl); (· rfl); try simp -implicitDefEqProofs only [go_sem, z1, z2, z3, z4, z5, z6, z7, z8, z9, za, zb, zc, ↓reduceIte, *])))
            refine ⟨p + 1, by omega, by omega, ?_⟩
            refine wk_tm ?_; repeat (first | exact WL.nil | (with_reducible refine WL.any _ _ _ ?_) | (with_reducible refine WL.same _ _ _ ?_) | (refine WL.eq _ _ _ _ rfl ?_))
          · simp -implicitDefEqProofs only [go_sem, z1, z2, z3, z4, z5, z6, z7, z8, z9, za, zb, zc, ↓reduceIte, hl2, hpb, h0]
            (repeat' (first | ((with_reducible first | refine gon ?_ ?_ | refine gos ?_ ?_ | refine cdn ?_ ?_ | refine cds ?_ ?_ | refine gpn ?_ ?_ | refine gps ?_ ?_) <;> intro h <;> (try simp only [dt, df, gi, gt] at h) <;> try simp -implicitDefEqProofs only [go_sem, z1, z2, z3, z4, z5, z6, z7, z8, z9, za, zb, zc, ↓reduceIte, *]) | ((with_reducible refine And.intro ?_ ?_); (· first | omega | (simp only [List.length_take]; omega)); try simp -implicitDefEqProofs only [go_sem, z1, z2, z3, z4, z5, z6, z7, z8, z9, za, zb, zc, ↓reduceIte, *]) | ((with_reducible refine enter_pu (c4) ?_ ?_ ?_); (· rfl); (· rfl); try simp -implicitDefEqProofs only [go_sem, z1, z2, z3, z4, z5, z6, z7, z8, z9, za, zb, zc, ↓reduceIte, *])))
            all_goals first
              | (exfalso; omega)
              | (refine ⟨p + 1, by omega, by omega, ?_⟩; refine wk_tm ?_; repeat (first | exact WL.nil | (with_reducible refine WL.any _ _ _ ?_) | (with_reducible refine WL.same _ _ _ ?_) | (refine WL.eq _ _ _ _ rfl ?_)))
    · have hl1 : ¬ (p : Int) < 5 := by omega
      have c4 := EngineLockI_fn ⟨ea, eb, ec, es, ed⟩ (-1) hsm
      rw [lockE_out (by omega)] at c4
      simp -implicitDefEqProofs only [go_sem, z1, z2, z3, z4, z5, z6, z7, z8, z9, za, zb, zc, ↓reduceIte, hl1]
      (repeat' (first | ((with_reducible first | refine gon ?_ ?_ | refine gos ?_ ?_ | refine cdn ?_ ?_ | refine cds ?_ ?_ | refine gpn ?_ ?_ | refine gps ?_ ?_) <;> intro h <;> (try simp only [dt, df, gi, gt] at h) <;> try simp -implicitDefEqProofs only [go_sem, z1, z2, z3, z4, z5, z6, z7, z8, z9, za, zb, zc, ↓reduceIte, *]) | ((with_reducible refine And.intro ?_ ?_); (· first | omega | (simp only [List.length_take]; omega)); try simp -implicitDefEqProofs only [go_sem, z1, z2, z3, z4, z5, z6, z7, z8, z9, za, zb, zc, ↓reduceIte, *]) | ((with_reducible refine enter_pu (c4) ?_ ?_ ?_); (· rfl); (· rfl); try simp -implicitDefEqProofs only [go_sem, z1, z2, z3, z4, z5, z6, z7, z8, z9, za, zb, zc, ↓reduceIte, *])))
      all_goals exact fin_pu rfl rfl
end Go.Proofs.YtcpfcpfikinbmaaGreat.Am
end
section
set_option linter.unusedVariables false
set_option linter.unusedSimpArgs false
set_option maxRecDepth 100000
set_option maxHeartbeats 8000000
namespace Go.Proofs.YtcpfcpfikinbmaaGreat.Am
open Go Go.RowKit Go.Proofs
open Nat renaming reduceAdd → z1, reduceSub → z2, reduceMul → z3, reduceLT → z4, reduceLeDiff → z5, reduceEqDiff → z6
open Int renaming reduceBEq → z7, reduceBNe → z8, reduceNeg → z9, reduceSub → za, reduceLE → zb, reduceLT → zc
attribute [local congr] opsP_congr codeP_congr AWP_congr afterR_congr preP_congr afterPre_congr gPre_congr gOps_congr condP_congr stepE_congr
attribute [local go_sem] ty_int ty_bool ty_str ty_u8 ty_ints ty_bytes ty_page ty_pages ty_lpage ty_lpages ty_rec ty_recs ty_lrec ty_lrecs ty_eng ty_leng
attribute [local go_sem] true_and and_true beq_true' beq_false' toNat_cast Int.natCast_nonneg Bool.not_not Bool.not_true Bool.not_false decide_true decide_false Bool.or_false Bool.false_or Bool.or_true Bool.true_or Bool.and_false Bool.false_and Nat.zero_add Int.toNat_of_nonneg wrap_succ wrap_m1 wrap_nat succ_m1 cast0 succ_pos' succ_ne' succ_bne' ge_iff_le gt_iff_lt if_true if_false
attribute [local go_sem] slt_r slt_I slt_p ty_rd ty_ev ty_evs
/-- A function of an empty slice: for every value that an empty slice has. -/
theorem fn_empty {P : Program} {f : FuncId} {z : Nat} {R : AV → Store → Prop} (h : ∀ A c, Fn P f [.prim (.slice A 0 c)] R) : Fn P f [.sl z []] R := by
  refine ⟨(h none 0).1, fun ok μ w vs hok rs hl hr => ?_⟩
  have h0 := hr 0 (.sl z []) rfl
  obtain ⟨A, c, hv⟩ : ∃ A c, vs.getD 0 undef = .slice A 0 c := by
    generalize vs.getD 0 undef = v at h0
    cases h0 with
    | sl _ _ v hD =>
      cases hD with
      | sl _ _ n A c ad f hn hc hA hz0 hz h1 h2 =>
        simp only [List.length_nil] at hn
        subst hn
        exact ⟨A, c, rfl⟩
  refine (h A c).2 ok μ w vs hok rs hl fun j x hj => ?_
  rcases j with _ | j
  · cases hj
    rw [hv]
    exact .prim _ rfl
  · cases hj
/-- A nil slice that is handed back, as a slice of an object of its own. -/
theorem fin_nil {z : Nat} (hz : 0 < z) {mv : List Nat} {R : AV → Store → Prop} (h : R (.own 0 z 0 0) [some ⟨z, []⟩]) : Fin 0 (.prim (.slice none 0 0)) [] mv (fun r S' mv => R r S' ∧ mv = []) := by
  have hone : ∀ (i : Nat) (o : AObj), ([some ⟨z, []⟩] : Store)[i]? = some (some o) → o = ⟨z, []⟩ := by
    intro i o hi
    rcases i with _ | i
    · cases hi; rfl
    · cases hi
  refine ⟨.own 0 z 0 0, [some ⟨z, []⟩], [], ⟨h, rfl⟩, fun ok w0 μ0 S0 μ a w v tm h0 hr hv => ?_⟩
  have hS0 : S0 = [] := List.eq_nil_of_length_eq_zero h0
  subst hS0
  refine ⟨μ, ⟨fun i o hi hne => ?_, fun i o hi => ?_, fun i j oi oj hi hj hni hnj e => ?_⟩, ?_, fun b _ hl => ?_, by simp, fun i hi => by simp at hi⟩
  · rw [hone i o hi] at hne
    exact absurd rfl hne
  · rw [hone i o hi]
    exact ⟨hz, fun x hx => by simp at hx⟩
  · rw [hone i oi hi] at hni
    exact absurd rfl hni
  · cases hv
    exact .own0 0 z 0 none (by simp)
  · obtain ⟨i, o, hi, hne, _⟩ := hl
    rw [hone i o hi] at hne
    exact absurd rfl hne
theorem CloneR_own (l : List Rc) (hb : l.length < 1000000) : Fn Tryz.prog 105 [recs l] (fun r S => r = .own 0 8 0 l.length ∧ S = [oL l]) := by
  rcases l with _ | ⟨x, l⟩
  · refine fn_empty fun A c => ?_
    refine fn_of Tryz.func105 rfl rfl ?_
    rcases A with _ | A
    · simp -implicitDefEqProofs only [go_sem, z1, z2, z3, z4, z5, z6, z7, z8, z9, za, zb, zc, ↓reduceIte, Tryz.f105, Option.isNone_none]
      exact fin_nil (by decide) ⟨rfl, rfl⟩
    · simp -implicitDefEqProofs only [go_sem, z1, z2, z3, z4, z5, z6, z7, z8, z9, za, zb, zc, ↓reduceIte, Tryz.f105, Option.isNone_some]
      (repeat' (first | ((with_reducible first | refine gon ?_ ?_ | refine gos ?_ ?_ | refine cdn ?_ ?_ | refine cds ?_ ?_ | refine gpn ?_ ?_ | refine gps ?_ ?_) <;> intro h <;> (try simp only [dt, df, gi, gt] at h) <;> try simp -implicitDefEqProofs only [go_sem, z1, z2, z3, z4, z5, z6, z7, z8, z9, za, zb, zc, ↓reduceIte, *]) | ((with_reducible refine And.intro ?_ ?_); (· first | omega | (simp only [List.length_take]; omega)); try simp -implicitDefEqProofs only [go_sem, z1, z2, z3, z4, z5, z6, z7, z8, z9, za, zb, zc, ↓reduceIte, *]) | fail))
      exact fin_keep [0] (by simp) rfl (keep1 (ob := ⟨8, []⟩) rfl .nil) (rt_own _ rfl) ⟨rfl, rfl⟩
  · have h0 : 0 < (x :: l).length := by simp
    generalize x :: l = l at h0 hb
    refine fn_of Tryz.func105 rfl rfl ?_
    simp -implicitDefEqProofs only [go_sem, z1, z2, z3, z4, z5, z6, z7, z8, z9, za, zb, zc, ↓reduceIte, Tryz.f105]
    (repeat' (first | ((with_reducible first | refine gon ?_ ?_ | refine gos ?_ ?_ | refine cdn ?_ ?_ | refine cds ?_ ?_ | refine gpn ?_ ?_ | refine gps ?_ ?_) <;> intro h <;> (try simp only [dt, df, gi, gt] at h) <;> try simp -implicitDefEqProofs only [go_sem, z1, z2, z3, z4, z5, z6, z7, z8, z9, za, zb, zc, ↓reduceIte, *]) | ((with_reducible refine And.intro ?_ ?_); (· first | omega | (simp only [List.length_take]; omega)); try simp -implicitDefEqProofs only [go_sem, z1, z2, z3, z4, z5, z6, z7, z8, z9, za, zb, zc, ↓reduceIte, *]) | fail))
    exact fin_keep [0] (by simp) rfl (keep1 rfl (a2_r _ _)) (rt_own _ rfl) ⟨rfl, rfl⟩
theorem copies5 (ps : List Pg) (h : Sz ps) : Fn Tryz.prog 104 [pgs ps] (fun r S => r = .own 0 3 0 5 ∧ S = [some ⟨3, ps.map pA⟩]) := by
  have hp5 := h.len
  have hcp := copies_own ps (by omega) (fun p hm => by obtain ⟨k, hk, rfl⟩ := mem_at hm; rw [h.sz k (by omega)]; omega)
  rw [hp5] at hcp
  exact hcp
theorem copiedE_own (e : Eng) (hd : Sz e.disk) (hm : Sz e.mem) (hl : e.log.length < 1000000) : Fn Tryz.prog 65 [eA e] (fun r S => r = eL 0 1 2 e ∧ S = [oP e.disk, oP e.mem, oL e.log]) := by
  refine fn_of Tryz.func65 rfl rfl ?_
  simp -implicitDefEqProofs only [go_sem, z1, z2, z3, z4, z5, z6, z7, z8, z9, za, zb, zc, ↓reduceIte, Tryz.f65]
  (repeat' (first | ((with_reducible first | refine gon ?_ ?_ | refine gos ?_ ?_ | refine cdn ?_ ?_ | refine cds ?_ ?_ | refine gpn ?_ ?_ | refine gps ?_ ?_) <;> intro h <;> (try simp only [dt, df, gi, gt] at h) <;> try simp -implicitDefEqProofs only [go_sem, z1, z2, z3, z4, z5, z6, z7, z8, z9, za, zb, zc, ↓reduceIte, *]) | ((with_reducible refine And.intro ?_ ?_); (· first | omega | (simp only [List.length_take]; omega)); try simp -implicitDefEqProofs only [go_sem, z1, z2, z3, z4, z5, z6, z7, z8, z9, za, zb, zc, ↓reduceIte, *]) | first | ((with_reducible refine cp_draw2 (id := 1) 13 2 mixed ?_ ?_ ?_ ?_); (· decide +kernel); (· first | (simp only [List.all_cons, List.all_nil, List.length_cons, List.length_nil, Nat.reduceAdd, Nat.reduceLT, decide_true, Bool.and_true, Bool.and_self]; done) | rfl); (· rfl); try simp -implicitDefEqProofs only [go_sem, z1, z2, z3, z4, z5, z6, z7, z8, z9, za, zb, zc, ↓reduceIte, List.append_nil, *]) | ((with_reducible refine pre_made (copies5 e.disk hd) ?_ ?_ ?_ ?_ ?_ ?_); (· rfl); (· intro n; simp only [go_sem, List.map_cons, List.map_nil, Nat.zero_add]); (· intro n; simp only [go_sem]); (· rfl); (· first | exact slt_I | exact slt_p | exact slt_r | rfl); try simp -implicitDefEqProofs only [go_sem, z1, z2, z3, z4, z5, z6, z7, z8, z9, za, zb, zc, ↓reduceIte, List.map_cons, List.map_nil, *]) | ((with_reducible refine pre_made (copies5 e.mem hm) ?_ ?_ ?_ ?_ ?_ ?_); (· rfl); (· intro n; simp only [go_sem, List.map_cons, List.map_nil, Nat.zero_add]); (· intro n; simp only [go_sem]); (· rfl); (· first | exact slt_I | exact slt_p | exact slt_r | rfl); try simp -implicitDefEqProofs only [go_sem, z1, z2, z3, z4, z5, z6, z7, z8, z9, za, zb, zc, ↓reduceIte, List.map_cons, List.map_nil, *]) | ((with_reducible refine pre_made (CloneR_own e.log hl) ?_ ?_ ?_ ?_ ?_ ?_); (· rfl); (· intro n; simp only [go_sem, List.map_cons, List.map_nil, Nat.zero_add]); (· intro n; simp only [go_sem]); (· rfl); (· first | exact slt_I | exact slt_p | exact slt_r | rfl); try simp -implicitDefEqProofs only [go_sem, z1, z2, z3, z4, z5, z6, z7, z8, z9, za, zb, zc, ↓reduceIte, List.map_cons, List.map_nil, *]) | ((with_reducible refine exp_end ?_ ?_); (· decide +kernel); try simp -implicitDefEqProofs only [go_sem, z1, z2, z3, z4, z5, z6, z7, z8, z9, za, zb, zc, ↓reduceIte, *]) | ((with_reducible refine exp_one 13 ?_ ?_); (· decide +kernel); try simp -implicitDefEqProofs only [go_sem, z1, z2, z3, z4, z5, z6, z7, z8, z9, za, zb, zc, ↓reduceIte, *]) | ((with_reducible refine exp_one 14 ?_ ?_); (· decide +kernel); try simp -implicitDefEqProofs only [go_sem, z1, z2, z3, z4, z5, z6, z7, z8, z9, za, zb, zc, ↓reduceIte, *])))
  exact fin_drop [2, 3, 4] [] (by simp) rfl (by decide) (keep3 (o3 := ⟨8, e.log.map rA⟩) rfl rfl rfl (a2_p _ _) (a2_p _ _) (a2_r _ _)) (fun i hi => absurd hi (Nat.not_lt_zero _)) (.of _ _ (rd_eL rfl rfl rfl)) ⟨⟨rfl, rfl⟩, rfl⟩
def zeroE : Eng := ⟨[], [], [], 0, false⟩
theorem rd_ez {S : Store} {b : Bool} : RdT [] S 0 (.tup [.agg [.prim (.slice none 0 0), .prim (.slice none 0 0), .prim (.slice none 0 0), I 0, Bo false], Bo b]) (.tup [eA zeroE, Bo b]) :=
  .tup _ _ (.cons _ _ _ _ (.agg _ _ (.cons _ _ _ _ (.nil 3 (by decide)) (.cons _ _ _ _ (.nil 3 (by decide)) (.cons _ _ _ _ (.nil 8 (by decide)) (.cons _ _ _ _ (.rn _ _ (.same _ rfl)) (.cons _ _ _ _ (.rn _ _ (.same _ rfl)) .nil)))))) (.cons _ _ _ _ (.of _ _ (.rn _ _ (.same _ rfl))) .nil))
theorem rd_oX {S : Store} {i j : Nat} {ea eb : List Pg} {ec : List Rc} {es : Int} {ed b : Bool} (h1 : getO S i = some ⟨3, ea.map pA⟩) (h2 : getO S j = some ⟨3, eb.map pA⟩) (ha : ea.length = 5) (hb : eb.length = 5) : RdT [] S 0 (.tup [.agg [.own i 3 0 5, .own j 3 0 5, recs ec, I es, Bo ed], Bo b]) (.tup [eA ⟨ea, eb, ec, es, ed⟩, Bo b]) :=
  .tup _ _ (.cons _ _ _ _ (.agg _ _ (.cons _ _ _ _ (rd_pgs (Nat.zero_le _) (by simp) h1 ha) (.cons _ _ _ _ (rd_pgs (Nat.zero_le _) (by simp) h2 hb) (.cons _ _ _ _ (.rn _ _ (.same _ rfl)) (.cons _ _ _ _ (.rn _ _ (.same _ rfl)) (.cons _ _ _ _ (.rn _ _ (.same _ rfl)) .nil)))))) (.cons _ _ _ _ (.of _ _ (.rn _ _ (.same _ rfl))) .nil))
theorem rd_oL {S : Store} {i j k n : Nat} {ea eb : List Pg} {ec : List Rc} {es : Int} {ed b : Bool} (h1 : getO S i = some ⟨3, ea.map pA⟩) (h2 : getO S j = some ⟨3, eb.map pA⟩) (h3 : getO S k = some ⟨8, ec.map rA⟩) (ha : ea.length = 5) (hb : eb.length = 5) (hc : n = ec.length) : RdT [] S 0 (.tup [.agg [.own i 3 0 5, .own j 3 0 5, .own k 8 0 n, I es, Bo ed], Bo b]) (.tup [eA ⟨ea, eb, ec, es, ed⟩, Bo b]) :=
  .tup _ _ (.cons _ _ _ _ (.agg _ _ (.cons _ _ _ _ (rd_pgs (Nat.zero_le _) (by simp) h1 ha) (.cons _ _ _ _ (rd_pgs (Nat.zero_le _) (by simp) h2 hb) (.cons _ _ _ _ (rd_recs (Nat.zero_le _) (by simp) h3 hc) (.cons _ _ _ _ (.rn _ _ (.same _ rfl)) (.cons _ _ _ _ (.rn _ _ (.same _ rfl)) .nil)))))) (.cons _ _ _ _ (.of _ _ (.rn _ _ (.same _ rfl))) .nil))
def forceE (e : Eng) : Eng × Bool := if okE e = true ∧ e.down = false then (⟨e.disk, e.mem, e.log, e.log.length, e.down⟩, true) else (zeroE, false)
theorem EngineForceS_fn (e : Eng) (h : e.small) : Fn1 Tryz.prog 21 [eA e] (.tup [eA (forceE e).1, Bo (forceE e).2]) := by
  obtain ⟨ea, eb, ec, es, ed⟩ := e
  have c1 := okS ⟨ea, eb, ec, es, ed⟩ h
  refine fn1_of Tryz.func21 rfl rfl ?_
  unfold forceE
  obtain ⟨ok, hok⟩ : ∃ ok, okE ⟨ea, eb, ec, es, ed⟩ = ok := ⟨_, rfl⟩
  rw [hok] at c1 ⊢
  rcases ok with _ | _
  · rw [if_neg (by simp)]
    simp -implicitDefEqProofs only [go_sem, z1, z2, z3, z4, z5, z6, z7, z8, z9, za, zb, zc, ↓reduceIte, Tryz.f21]
    (repeat' (first | ((with_reducible first | refine gon ?_ ?_ | refine gos ?_ ?_ | refine cdn ?_ ?_ | refine cds ?_ ?_ | refine gpn ?_ ?_ | refine gps ?_ ?_) <;> intro h <;> (try simp only [dt, df, gi, gt] at h) <;> try simp -implicitDefEqProofs only [go_sem, z1, z2, z3, z4, z5, z6, z7, z8, z9, za, zb, zc, ↓reduceIte, *]) | ((with_reducible refine And.intro ?_ ?_); (· first | omega | (simp only [List.length_take]; omega)); try simp -implicitDefEqProofs only [go_sem, z1, z2, z3, z4, z5, z6, z7, z8, z9, za, zb, zc, ↓reduceIte, *]) | ((with_reducible refine enter_pu (c1) ?_ ?_ ?_); (· rfl); (· rfl); try simp -implicitDefEqProofs only [go_sem, z1, z2, z3, z4, z5, z6, z7, z8, z9, za, zb, zc, ↓reduceIte, *])))
    all_goals exact fin_drawn rd_ez ⟨⟨rfl, rfl⟩, rfl⟩
  rcases ed with _ | _
  rotate_left
  · rw [if_neg (by simp)]
    simp -implicitDefEqProofs only [go_sem, z1, z2, z3, z4, z5, z6, z7, z8, z9, za, zb, zc, ↓reduceIte, Tryz.f21]
    (repeat' (first | ((with_reducible first | refine gon ?_ ?_ | refine gos ?_ ?_ | refine cdn ?_ ?_ | refine cds ?_ ?_ | refine gpn ?_ ?_ | refine gps ?_ ?_) <;> intro h <;> (try simp only [dt, df, gi, gt] at h) <;> try simp -implicitDefEqProofs only [go_sem, z1, z2, z3, z4, z5, z6, z7, z8, z9, za, zb, zc, ↓reduceIte, *]) | ((with_reducible refine And.intro ?_ ?_); (· first | omega | (simp only [List.length_take]; omega)); try simp -implicitDefEqProofs only [go_sem, z1, z2, z3, z4, z5, z6, z7, z8, z9, za, zb, zc, ↓reduceIte, *]) | ((with_reducible refine enter_pu (c1) ?_ ?_ ?_); (· rfl); (· rfl); try simp -implicitDefEqProofs only [go_sem, z1, z2, z3, z4, z5, z6, z7, z8, z9, za, zb, zc, ↓reduceIte, *])))
    all_goals exact fin_drawn rd_ez ⟨⟨rfl, rfl⟩, rfl⟩
  rw [if_pos ⟨rfl, rfl⟩]
  have hi := inv_of_ok hok
  have hd5 : ea.length = 5 := hi.disk.len
  have hm5 : eb.length = 5 := hi.mem.len
  have c2 := l11Copy_c ⟨ea, eb, ec, es, false⟩ hi.disk.sz hi.mem.sz (by have := hi.len; omega)
  clear hok
  simp -implicitDefEqProofs only [go_sem, z1, z2, z3, z4, z5, z6, z7, z8, z9, za, zb, zc, ↓reduceIte, Tryz.f21]
  (repeat' (first | ((with_reducible first | refine gon ?_ ?_ | refine gos ?_ ?_ | refine cdn ?_ ?_ | refine cds ?_ ?_ | refine gpn ?_ ?_ | refine gps ?_ ?_) <;> intro h <;> (try simp only [dt, df, gi, gt] at h) <;> try simp -implicitDefEqProofs only [go_sem, z1, z2, z3, z4, z5, z6, z7, z8, z9, za, zb, zc, ↓reduceIte, *]) | ((with_reducible refine And.intro ?_ ?_); (· first | omega | (simp only [List.length_take]; omega)); try simp -implicitDefEqProofs only [go_sem, z1, z2, z3, z4, z5, z6, z7, z8, z9, za, zb, zc, ↓reduceIte, *]) | first | ((with_reducible refine enter_pu (c1) ?_ ?_ ?_); (· rfl); (· rfl); try simp -implicitDefEqProofs only [go_sem, z1, z2, z3, z4, z5, z6, z7, z8, z9, za, zb, zc, ↓reduceIte, *]) | ((with_reducible refine enter_fn (c2) ?_ ?_); (· rfl); try simp -implicitDefEqProofs only [go_sem, z1, z2, z3, z4, z5, z6, z7, z8, z9, za, zb, zc, ↓reduceIte, *])))
  all_goals exact fin_drawn (rd_oX rfl rfl hd5 hm5) ⟨⟨rfl, rfl⟩, rfl⟩
theorem EngineForceI_fn (e : Eng) (h : e.small) : Fn1 Tryz.prog 22 [eA e] (.tup [eA (forceE e).1, Bo (forceE e).2]) := by
  obtain ⟨ea, eb, ec, es, ed⟩ := e
  have c1 := okI ⟨ea, eb, ec, es, ed⟩ h
  refine fn1_of Tryz.func22 rfl rfl ?_
  unfold forceE
  obtain ⟨ok, hok⟩ : ∃ ok, okE ⟨ea, eb, ec, es, ed⟩ = ok := ⟨_, rfl⟩
  rw [hok] at c1 ⊢
  rcases ok with _ | _
  · rw [if_neg (by simp)]
    simp -implicitDefEqProofs only [go_sem, z1, z2, z3, z4, z5, z6, z7, z8, z9, za, zb, zc, ↓reduceIte, Tryz.f22]
    (repeat' (first | ((with_reducible first | refine gon ?_ ?_ | refine gos ?_ ?_ | refine cdn ?_ ?_ | refine cds ?_ ?_ | refine gpn ?_ ?_ | refine gps ?_ ?_) <;> intro h <;> (try simp only [dt, df, gi, gt] at h) <;> try simp -implicitDefEqProofs only [go_sem, z1, z2, z3, z4, z5, z6, z7, z8, z9, za, zb, zc, ↓reduceIte, *]) | ((with_reducible refine And.intro ?_ ?_); (· first | omega | (simp only [List.length_take]; omega)); try simp -implicitDefEqProofs only [go_sem, z1, z2, z3, z4, z5, z6, z7, z8, z9, za, zb, zc, ↓reduceIte, *]) | ((with_reducible refine enter_pu (c1) ?_ ?_ ?_); (· rfl); (· rfl); try simp -implicitDefEqProofs only [go_sem, z1, z2, z3, z4, z5, z6, z7, z8, z9, za, zb, zc, ↓reduceIte, *])))
    all_goals exact fin_drawn rd_ez ⟨⟨rfl, rfl⟩, rfl⟩
  rcases ed with _ | _
  rotate_left
  · rw [if_neg (by simp)]
    simp -implicitDefEqProofs only [go_sem, z1, z2, z3, z4, z5, z6, z7, z8, z9, za, zb, zc, ↓reduceIte, Tryz.f22]
    (repeat' (first | ((with_reducible first | refine gon ?_ ?_ | refine gos ?_ ?_ | refine cdn ?_ ?_ | refine cds ?_ ?_ | refine gpn ?_ ?_ | refine gps ?_ ?_) <;> intro h <;> (try simp only [dt, df, gi, gt] at h) <;> try simp -implicitDefEqProofs only [go_sem, z1, z2, z3, z4, z5, z6, z7, z8, z9, za, zb, zc, ↓reduceIte, *]) | ((with_reducible refine And.intro ?_ ?_); (· first | omega | (simp only [List.length_take]; omega)); try simp -implicitDefEqProofs only [go_sem, z1, z2, z3, z4, z5, z6, z7, z8, z9, za, zb, zc, ↓reduceIte, *]) | ((with_reducible refine enter_pu (c1) ?_ ?_ ?_); (· rfl); (· rfl); try simp -implicitDefEqProofs only [go_sem, z1, z2, z3, z4, z5, z6, z7, z8, z9, za, zb, zc, ↓reduceIte, *])))
    all_goals exact fin_drawn rd_ez ⟨⟨rfl, rfl⟩, rfl⟩
  rw [if_pos ⟨rfl, rfl⟩]
  have hi := inv_of_ok hok
  have hd5 : ea.length = 5 := hi.disk.len
  have hm5 : eb.length = 5 := hi.mem.len
  have c2 := copiedE_own ⟨ea, eb, ec, es, false⟩ hi.disk.sz hi.mem.sz (by have := hi.len; omega)
  clear hok
  simp -implicitDefEqProofs only [go_sem, z1, z2, z3, z4, z5, z6, z7, z8, z9, za, zb, zc, ↓reduceIte, Tryz.f22]
  (repeat' (first | ((with_reducible first | refine gon ?_ ?_ | refine gos ?_ ?_ | refine cdn ?_ ?_ | refine cds ?_ ?_ | refine gpn ?_ ?_ | refine gps ?_ ?_) <;> intro h <;> (try simp only [dt, df, gi, gt] at h) <;> try simp -implicitDefEqProofs only [go_sem, z1, z2, z3, z4, z5, z6, z7, z8, z9, za, zb, zc, ↓reduceIte, *]) | ((with_reducible refine And.intro ?_ ?_); (· first | omega | (simp only [List.length_take]; omega)); try simp -implicitDefEqProofs only [go_sem, z1, z2, z3, z4, z5, z6, z7, z8, z9, za, zb, zc, ↓reduceIte, *]) | first | ((with_reducible refine enter_pu (c1) ?_ ?_ ?_); (· rfl); (· rfl); try simp -implicitDefEqProofs only [go_sem, z1, z2, z3, z4, z5, z6, z7, z8, z9, za, zb, zc, ↓reduceIte, *]) | ((with_reducible refine enter_fn (c2) ?_ ?_); (· rfl); try simp -implicitDefEqProofs only [go_sem, z1, z2, z3, z4, z5, z6, z7, z8, z9, za, zb, zc, ↓reduceIte, *])))
  all_goals exact fin_drawn (rd_oL rfl rfl rfl hd5 hm5 rfl) ⟨⟨rfl, rfl⟩, rfl⟩
end Go.Proofs.YtcpfcpfikinbmaaGreat.Am
end
section
set_option linter.unusedVariables false
set_option linter.unusedSimpArgs false
set_option maxRecDepth 100000
set_option maxHeartbeats 8000000
namespace Go.Proofs.YtcpfcpfikinbmaaGreat.Am
open Go Go.RowKit Go.Proofs
open Nat renaming reduceAdd → z1, reduceSub → z2, reduceMul → z3, reduceLT → z4, reduceLeDiff → z5, reduceEqDiff → z6
open Int renaming reduceBEq → z7, reduceBNe → z8, reduceNeg → z9, reduceSub → za, reduceLE → zb, reduceLT → zc
attribute [local congr] opsP_congr codeP_congr AWP_congr afterR_congr preP_congr afterPre_congr gPre_congr gOps_congr condP_congr stepE_congr
attribute [local go_sem] ty_int ty_bool ty_str ty_u8 ty_ints ty_bytes ty_page ty_pages ty_lpage ty_lpages ty_rec ty_recs ty_lrec ty_lrecs ty_eng ty_leng
attribute [local go_sem] true_and and_true beq_true' beq_false' toNat_cast Int.natCast_nonneg Bool.not_not Bool.not_true Bool.not_false decide_true decide_false Bool.or_false Bool.false_or Bool.or_true Bool.true_or Bool.and_false Bool.false_and Nat.zero_add Int.toNat_of_nonneg wrap_succ wrap_m1 wrap_nat succ_m1 cast0 succ_pos' succ_ne' succ_bne' ge_iff_le gt_iff_lt if_true if_false
attribute [local go_sem] slt_r slt_I slt_p ty_rd ty_ev ty_evs
theorem zeroE_small : zeroE.small := ⟨by decide, by decide, by decide, fun p hp => absurd hp List.not_mem_nil, fun p hp => absurd hp List.not_mem_nil⟩
theorem ltSame (e : Eng) (h : e.small) : Fn1 Tryz.prog 23 [eA e, eA e] (Bo true) := by
  have := ltEngine_fn e e h
  rwa [sameE_refl] at this
theorem force_ok {ea eb : List Pg} {ec : List Rc} {es : Int} (h : okE ⟨ea, eb, ec, es, false⟩ = true) : okE ⟨ea, eb, ec, (ec.length : Int), false⟩ = true := by
  have ho := okE_iff.1 h
  have hsf := ho.safe
  simp only at hsf
  refine okE_iff.2 ⟨ho.disk, ho.mem, ho.log, ⟨by simp only; omega, Int.le_refl _⟩, ho.room, fun k h1 h2 => ?_, fun k hk => ?_⟩
  · simp only [Int.toNat_natCast] at h1 h2
    have := ho.pre k (by simp only; omega) h2
    exact this
  · have hp := pgB_iff.1 (ho.pg k hk)
    refine pgB_iff.2 ⟨?_, hp.2.1, hp.2.2⟩
    have h1 := hp.1
    simp only at h1 ⊢
    omega
theorem Force_law (l : List Int) (hl : l.length < 4611686018427387904) (hb : Byt l) : Fn1 Tryz.prog 5 [bts l] (Bo true) := by
  refine fn1_of Tryz.func5 rfl rfl ?_
  by_cases hlen : (1048576 : Int) < (l.length : Int)
  · simp -implicitDefEqProofs only [go_sem, z1, z2, z3, z4, z5, z6, z7, z8, z9, za, zb, zc, ↓reduceIte, Tryz.f5, hlen]
    exact fin_pu rfl rfl
  simp -implicitDefEqProofs only [go_sem, z1, z2, z3, z4, z5, z6, z7, z8, z9, za, zb, zc, ↓reduceIte, Tryz.f5, hlen]
  (repeat' (first | ((with_reducible first | refine gon ?_ ?_ | refine gos ?_ ?_ | refine cdn ?_ ?_ | refine cds ?_ ?_ | refine gpn ?_ ?_ | refine gps ?_ ?_) <;> intro h <;> (try simp only [dt, df, gi, gt] at h) <;> try simp -implicitDefEqProofs only [go_sem, z1, z2, z3, z4, z5, z6, z7, z8, z9, za, zb, zc, ↓reduceIte, *]) | ((with_reducible refine And.intro ?_ ?_); (· first | omega | (simp only [List.length_take]; omega)); try simp -implicitDefEqProofs only [go_sem, z1, z2, z3, z4, z5, z6, z7, z8, z9, za, zb, zc, ↓reduceIte, *]) | ((with_reducible refine enter_at ([] : List Nat) (M2 := []) (DrawEngineForce_c l hl hb) (by decide) ?_ ?_ rfl ?_); (· repeat (first | exact Keeps.nil | (refine Keeps.cons _ _ _ _ _ rfl rfl ?_ ?_; (· first | exact a2_p _ _ | exact a2_1 rfl | exact a2_I _ _)))); (· repeat (first | exact All2.nil | (refine All2.cons _ _ _ _ ?_ ?_; (· first | exact rnT_eX rfl rfl | exact rnT_prim | exact rnT_sl | exact rnT_ref rfl | exact rnT_agg rfl | exact rnT_own rfl | exact rnT_eX5 rfl rfl)))); rintro e hdr; try simp -implicitDefEqProofs only [go_sem, z1, z2, z3, z4, z5, z6, z7, z8, z9, za, zb, zc, ↓reduceIte, *])))
  obtain ⟨ea, eb, ec, es, ed⟩ := e
  have hsm := dr_small hdr
  have c1 := EngineForceI_fn ⟨ea, eb, ec, es, ed⟩ hsm
  have c2 := EngineForceS_fn ⟨ea, eb, ec, es, ed⟩ hsm
  unfold forceE at c1 c2
  by_cases hk : okE ⟨ea, eb, ec, es, ed⟩ = true ∧ ed = false
  rotate_left
  · rw [if_neg hk] at c1 c2
    have c3 := ltSame zeroE zeroE_small
    clear hk
    (repeat' (first | ((with_reducible first | refine gon ?_ ?_ | refine gos ?_ ?_ | refine cdn ?_ ?_ | refine cds ?_ ?_ | refine gpn ?_ ?_ | refine gps ?_ ?_) <;> intro h <;> (try simp only [dt, df, gi, gt] at h) <;> try simp -implicitDefEqProofs only [go_sem, z1, z2, z3, z4, z5, z6, z7, z8, z9, za, zb, zc, ↓reduceIte, *]) | ((with_reducible refine And.intro ?_ ?_); (· first | omega | (simp only [List.length_take]; omega)); try simp -implicitDefEqProofs only [go_sem, z1, z2, z3, z4, z5, z6, z7, z8, z9, za, zb, zc, ↓reduceIte, *]) | first | ((with_reducible refine enter_pu (c1) ?_ ?_ ?_); (· rfl); (· rfl); try simp -implicitDefEqProofs only [go_sem, z1, z2, z3, z4, z5, z6, z7, z8, z9, za, zb, zc, ↓reduceIte, *]) | ((with_reducible refine enter_pu (c2) ?_ ?_ ?_); (· rfl); (· rfl); try simp -implicitDefEqProofs only [go_sem, z1, z2, z3, z4, z5, z6, z7, z8, z9, za, zb, zc, ↓reduceIte, *]) | ((with_reducible refine enter_pu (c3) ?_ ?_ ?_); (· rfl); (· rfl); try simp -implicitDefEqProofs only [go_sem, z1, z2, z3, z4, z5, z6, z7, z8, z9, za, zb, zc, ↓reduceIte, *])))
    all_goals exact fin_pu rfl rfl
  · obtain ⟨hok, rfl⟩ := hk
    rw [if_pos ⟨hok, rfl⟩] at c1 c2
    simp only at c1 c2
    have hsm2 : Eng.small ⟨ea, eb, ec, (ec.length : Int), false⟩ := ⟨hsm.disk, hsm.mem, hsm.log, hsm.dv, hsm.mv⟩
    have c3 := ltSame _ hsm2
    have c4 := ltSame _ hsm
    have c5 := okI _ hsm2
    rw [force_ok hok] at c5
    have e1 : ((ec.length : Int) == (ec.length : Int)) = true := by simp
    clear hok
    (repeat' (first | ((with_reducible first | refine gon ?_ ?_ | refine gos ?_ ?_ | refine cdn ?_ ?_ | refine cds ?_ ?_ | refine gpn ?_ ?_ | refine gps ?_ ?_) <;> intro h <;> (try simp only [dt, df, gi, gt] at h) <;> try simp -implicitDefEqProofs only [go_sem, z1, z2, z3, z4, z5, z6, z7, z8, z9, za, zb, zc, ↓reduceIte, *]) | ((with_reducible refine And.intro ?_ ?_); (· first | omega | (simp only [List.length_take]; omega)); try simp -implicitDefEqProofs only [go_sem, z1, z2, z3, z4, z5, z6, z7, z8, z9, za, zb, zc, ↓reduceIte, *]) | first | ((with_reducible refine enter_pu (c1) ?_ ?_ ?_); (· rfl); (· rfl); try simp -implicitDefEqProofs only [go_sem, z1, z2, z3, z4, z5, z6, z7, z8, z9, za, zb, zc, ↓reduceIte, *]) | ((with_reducible refine enter_pu (c2) ?_ ?_ ?_); (· rfl); (· rfl); try simp -implicitDefEqProofs only [go_sem, z1, z2, z3, z4, z5, z6, z7, z8, z9, za, zb, zc, ↓reduceIte, *]) | ((with_reducible refine enter_pu (c3) ?_ ?_ ?_); (· rfl); (· rfl); try simp -implicitDefEqProofs only [go_sem, z1, z2, z3, z4, z5, z6, z7, z8, z9, za, zb, zc, ↓reduceIte, *]) | ((with_reducible refine enter_pu (c4) ?_ ?_ ?_); (· rfl); (· rfl); try simp -implicitDefEqProofs only [go_sem, z1, z2, z3, z4, z5, z6, z7, z8, z9, za, zb, zc, ↓reduceIte, *]) | ((with_reducible refine enter_pu (c5) ?_ ?_ ?_); (· rfl); (· rfl); try simp -implicitDefEqProofs only [go_sem, z1, z2, z3, z4, z5, z6, z7, z8, z9, za, zb, zc, ↓reduceIte, *])))
    all_goals exact fin_pu rfl rfl
end Go.Proofs.YtcpfcpfikinbmaaGreat.Am
end
