/- Lemmas and walks: Gm Gn Go Ha Ob Hb Hc Hd He Hk Hf. No conditions. -/
import Derived.Test.YtihplpffmdeldaaGreatJ5
import Derived.Test.YtihplpffmdeldaaGreatJ2
import Derived.Laws.Strings
section
set_option linter.unusedVariables false
set_option linter.unusedSimpArgs false
set_option maxRecDepth 100000
set_option maxHeartbeats 8000000
namespace Go.Proofs.YtihplpffmdeldaaGreat.Am
open Go Go.RowKit Go.Proofs
open Nat renaming reduceAdd → z1, reduceSub → z2, reduceMul → z3, reduceLT → z4, reduceLeDiff → z5, reduceEqDiff → z6
open Int renaming reduceBEq → z7, reduceBNe → z8, reduceNeg → z9, reduceSub → za, reduceLE → zb, reduceLT → zc
attribute [local congr] opsP_congr codeP_congr AWP_congr afterR_congr preP_congr afterPre_congr gPre_congr gOps_congr condP_congr stepE_congr
attribute [local go_sem] ty_int ty_bool ty_str ty_u8 ty_ints ty_bytes ty_page ty_pages ty_lpage ty_lpages ty_rec ty_recs ty_lrec ty_lrecs ty_eng ty_leng
attribute [local go_sem] true_and and_true beq_true' beq_false' toNat_cast Int.natCast_nonneg Bool.not_not Bool.not_true Bool.not_false decide_true decide_false Bool.or_false Bool.false_or Bool.or_true Bool.true_or Bool.and_false Bool.false_and Nat.zero_add Int.toNat_of_nonneg wrap_succ wrap_m1 wrap_nat succ_m1 cast0 succ_pos' succ_ne' succ_bne' ge_iff_le gt_iff_lt if_true if_false
attribute [local go_sem] slt_r slt_I slt_p ty_rd ty_ev
theorem ty_evs : tiOf Tryz.prog 122 = some ⟨false, [.slice none 0 0], 24, .slice 146⟩ := by kernel_rfl
attribute [local go_sem] ty_evs
/-- An engine of which all is its own. -/
abbrev eL (i j k : Nat) (e : Eng) : AV := .agg [.own i 3 0 5, .own j 3 0 5, .own k 8 0 e.log.length, I e.safe, Bo e.down]
abbrev oL (l : List Rc) : Option AObj := some ⟨8, l.map rA⟩
@[go_sem] theorem rho22 {a b n : Nat} : rho [a, b] n 2 = n := by simp [rho]
@[go_sem] theorem rho12 {a n : Nat} : rho [a] n 2 = n + 1 := by simp [rho]
@[go_sem] theorem rho13 {a n : Nat} : rho [a] n 3 = n + 2 := by simp [rho]
@[go_sem] theorem rnO_r {ρ : Nat → Nat} {l : List Rc} : rnO ρ (some ⟨8, l.map rA⟩) = some ⟨8, l.map rA⟩ := by
  unfold rnO
  simp only [Option.map_some, List.map_map]
  congr 2
@[go_sem] theorem rn1_any {ρ : Nat → Nat} : AV.rn1 ρ .any = .any := rfl
@[go_sem] theorem putS_nil' {ρ : Nat → Nat} {o : Option AObj} {S T : Store} : putS ρ [] (o :: S) T = T ++ (rnO ρ o :: S.map (rnO ρ)) := by simp [putS]
@[go_sem] theorem scT_two {i j : Nat} {tm : List AV} : scT [i, j] tm = tm.map (AV.sc [i, j]) := rfl
@[go_sem] theorem scS_two {i j : Nat} {S : Store} : scS [i, j] S = S.map (Option.map fun o => ⟨o.z, o.es.map (AV.sc1 [i, j])⟩) := rfl
@[go_sem] theorem sc_ref2 {i j k z o s : Nat} : AV.sc [i, j] (.ref k z o s) = if k = i then .junk else if k = j then .junk else .ref k z o s := by
  by_cases h : k = i <;> by_cases h' : k = j <;> simp [AV.sc, AV.sc1, AV.sc0, h, h']
@[go_sem] theorem sc_own2 {i j k z o s : Nat} : AV.sc [i, j] (.own k z o s) = if k = i then .junk else if k = j then .junk else .own k z o s := by
  by_cases h : k = i <;> by_cases h' : k = j <;> simp [AV.sc, AV.sc1, AV.sc0, h, h']
@[go_sem] theorem sc0_own2 {i j k z o s : Nat} : AV.sc0 [i, j] (.own k z o s) = if k = i then .junk else if k = j then .junk else .own k z o s := by
  by_cases h : k = i <;> by_cases h' : k = j <;> simp [AV.sc0, h, h']
@[go_sem] theorem sc0_ref2 {i j k z o s : Nat} : AV.sc0 [i, j] (.ref k z o s) = if k = i then .junk else if k = j then .junk else .ref k z o s := by
  by_cases h : k = i <;> by_cases h' : k = j <;> simp [AV.sc0, h, h']
@[go_sem] theorem sc1_own2 {i j k z o s : Nat} : AV.sc1 [i, j] (.own k z o s) = if k = i then .junk else if k = j then .junk else .own k z o s := by
  by_cases h : k = i <;> by_cases h' : k = j <;> simp [AV.sc1, AV.sc0, h, h']
@[go_sem] theorem sc1_ev {mv : List Nat} {l : List Ev} : (l.map evA).map (AV.sc1 mv) = l.map evA := by rw [List.map_map]; rfl
@[go_sem] theorem pur_ev {l : List Ev} : (l.map evA).all AV.pur = true := by simp [AV.pur, AV.pur0]
@[go_sem] theorem pur_ev1 {a b c d n : Int} {v : List Int} : AV.pur (.agg [I a, I b, I c, I d, I n, ints v]) = true := rfl
@[go_sem] theorem app_ev {l : List Ev} {a b c d n : Int} {v : List Int} : l.map evA ++ [.agg [I a, I b, I c, I d, I n, ints v]] = (l ++ [(⟨a, b, c, d, n, v⟩ : Ev)]).map evA := by simp
theorem slt_ev {n : Nat} {l : List Ev} : ((l.map evA).all fun x => x.cells.all (AV.lt1 n)) = true := by simp [AV.cells, AV.lt1, AV.lt0]
theorem a2_r (K : List Nat) (l : List Rc) : All2 (Rn1 K) (l.map rA) (l.map rA) := by
  induction l with
  | nil => exact .nil
  | cons x l ih => exact .cons _ _ _ _ (.agg _ _ (a2_same rfl)) ih
theorem rnT_eL {K : List Nat} {a b c i j k n : Nat} {s : Int} {d : Bool} (h0 : K[a]? = some i) (h1 : K[b]? = some j) (h2 : K[c]? = some k) : RnT K (.agg [.own i 3 0 5, .own j 3 0 5, .own k 8 0 n, I s, Bo d]) (.agg [.own a 3 0 5, .own b 3 0 5, .own c 8 0 n, I s, Bo d]) :=
  .of _ _ (.agg _ _ (.cons _ _ _ _ (.own _ _ _ _ _ h0) (.cons _ _ _ _ (.own _ _ _ _ _ h1) (.cons _ _ _ _ (.own _ _ _ _ _ h2) (.cons _ _ _ _ (.same _ rfl) (.cons _ _ _ _ (.same _ rfl) .nil))))))
theorem hm01 {n : Nat} {K : List Nat} {mv : List Nat} (hn : n = 2) : ∀ i, i < n → [0, 1].contains i = false → K[i]? = some i ∧ mv.contains i = false := by
  subst hn
  intro i hi h
  have hi2 : i = 0 ∨ i = 1 := by omega
  rcases hi2 with rfl | rfl <;> cases h
theorem l11Copy_o (e : Eng) (hi : Inv e) : AFn1 Tryz.prog 66 [eX 0 1 e] (sO e) (eL 0 1 2 e) [oP e.disk, oP e.mem, oL e.log] [0, 1] := by
  have hd5 := hi.disk.len
  have hm5 := hi.mem.len
  have hlen := hi.len
  have hc1 := CopyPages_c e.disk hi.disk.sz
  have hc2 := CopyPages_c e.mem hi.mem.sz
  refine afn1_of Tryz.func66 rfl rfl ?_
  simp -implicitDefEqProofs only [go_sem, z1, z2, z3, z4, z5, z6, z7, z8, z9, za, zb, zc, ↓reduceIte, Tryz.f66]
  refine cp_drawG (id := 1) 16 (fun S => getO S 2 = some ⟨5, [eX 0 1 e]⟩) mixed rfl ?_
  ((refine expG_get 0 (.ref 2 5 0 0) rfl ?_ ?_ ?_ ?_ ?_); (· decide +kernel); (· decide +kernel); (· rfl); (· (intro S hS0; simp -implicitDefEqProofs only [go_sem, z1, z2, z3, z4, z5, z6, z7, z8, z9, za, zb, zc, ↓reduceIte, hS0, *])); try simp -implicitDefEqProofs only [go_sem, z1, z2, z3, z4, z5, z6, z7, z8, z9, za, zb, zc, ↓reduceIte, List.set_cons_succ, List.set_cons_zero])
  ((refine expG_get 1 (.own 0 3 0 5) rfl ?_ ?_ ?_ ?_ ?_); (· decide +kernel); (· decide +kernel); (· rfl); (· (intro S hS0; simp -implicitDefEqProofs only [go_sem, z1, z2, z3, z4, z5, z6, z7, z8, z9, za, zb, zc, ↓reduceIte, hS0, *])); try simp -implicitDefEqProofs only [go_sem, z1, z2, z3, z4, z5, z6, z7, z8, z9, za, zb, zc, ↓reduceIte, List.set_cons_succ, List.set_cons_zero])
  ((refine expG_get 3 (.ref 2 5 0 1) rfl ?_ ?_ ?_ ?_ ?_); (· decide +kernel); (· decide +kernel); (· rfl); (· (intro S hS0; simp -implicitDefEqProofs only [go_sem, z1, z2, z3, z4, z5, z6, z7, z8, z9, za, zb, zc, ↓reduceIte, hS0, *])); try simp -implicitDefEqProofs only [go_sem, z1, z2, z3, z4, z5, z6, z7, z8, z9, za, zb, zc, ↓reduceIte, List.set_cons_succ, List.set_cons_zero])
  ((refine expG_get 4 (.own 1 3 0 5) rfl ?_ ?_ ?_ ?_ ?_); (· decide +kernel); (· decide +kernel); (· rfl); (· (intro S hS0; simp -implicitDefEqProofs only [go_sem, z1, z2, z3, z4, z5, z6, z7, z8, z9, za, zb, zc, ↓reduceIte, hS0, *])); try simp -implicitDefEqProofs only [go_sem, z1, z2, z3, z4, z5, z6, z7, z8, z9, za, zb, zc, ↓reduceIte, List.set_cons_succ, List.set_cons_zero])
  ((refine expG_get 7 (.ref 2 5 0 2) rfl ?_ ?_ ?_ ?_ ?_); (· decide +kernel); (· decide +kernel); (· rfl); (· (intro S hS0; simp -implicitDefEqProofs only [go_sem, z1, z2, z3, z4, z5, z6, z7, z8, z9, za, zb, zc, ↓reduceIte, hS0, *])); try simp -implicitDefEqProofs only [go_sem, z1, z2, z3, z4, z5, z6, z7, z8, z9, za, zb, zc, ↓reduceIte, List.set_cons_succ, List.set_cons_zero])
  ((refine expG_get 8 (recs e.log) rfl ?_ ?_ ?_ ?_ ?_); (· decide +kernel); (· decide +kernel); (· rfl); (· (intro S hS0; simp -implicitDefEqProofs only [go_sem, z1, z2, z3, z4, z5, z6, z7, z8, z9, za, zb, zc, ↓reduceIte, hS0, *])); try simp -implicitDefEqProofs only [go_sem, z1, z2, z3, z4, z5, z6, z7, z8, z9, za, zb, zc, ↓reduceIte, List.set_cons_succ, List.set_cons_zero])
  ((refine expG_get 10 (.ref 2 5 0 3) rfl ?_ ?_ ?_ ?_ ?_); (· decide +kernel); (· decide +kernel); (· rfl); (· (intro S hS0; simp -implicitDefEqProofs only [go_sem, z1, z2, z3, z4, z5, z6, z7, z8, z9, za, zb, zc, ↓reduceIte, hS0, *])); try simp -implicitDefEqProofs only [go_sem, z1, z2, z3, z4, z5, z6, z7, z8, z9, za, zb, zc, ↓reduceIte, List.set_cons_succ, List.set_cons_zero])
  ((refine expG_get 11 (I e.safe) rfl ?_ ?_ ?_ ?_ ?_); (· decide +kernel); (· decide +kernel); (· rfl); (· (intro S hS0; simp -implicitDefEqProofs only [go_sem, z1, z2, z3, z4, z5, z6, z7, z8, z9, za, zb, zc, ↓reduceIte, hS0, *])); try simp -implicitDefEqProofs only [go_sem, z1, z2, z3, z4, z5, z6, z7, z8, z9, za, zb, zc, ↓reduceIte, List.set_cons_succ, List.set_cons_zero])
  ((refine expG_get 12 (.ref 2 5 0 4) rfl ?_ ?_ ?_ ?_ ?_); (· decide +kernel); (· decide +kernel); (· rfl); (· (intro S hS0; simp -implicitDefEqProofs only [go_sem, z1, z2, z3, z4, z5, z6, z7, z8, z9, za, zb, zc, ↓reduceIte, hS0, *])); try simp -implicitDefEqProofs only [go_sem, z1, z2, z3, z4, z5, z6, z7, z8, z9, za, zb, zc, ↓reduceIte, List.set_cons_succ, List.set_cons_zero])
  ((refine expG_get 13 (Bo e.down) rfl ?_ ?_ ?_ ?_ ?_); (· decide +kernel); (· decide +kernel); (· rfl); (· (intro S hS0; simp -implicitDefEqProofs only [go_sem, z1, z2, z3, z4, z5, z6, z7, z8, z9, za, zb, zc, ↓reduceIte, hS0, *])); try simp -implicitDefEqProofs only [go_sem, z1, z2, z3, z4, z5, z6, z7, z8, z9, za, zb, zc, ↓reduceIte, List.set_cons_succ, List.set_cons_zero])
  ((with_reducible refine expG_two 2 6 ?_ ?_ ?_); (· decide +kernel); all_goals (try simp -implicitDefEqProofs only [go_sem, z1, z2, z3, z4, z5, z6, z7, z8, z9, za, zb, zc, ↓reduceIte, *]))
  · ((with_reducible refine enter_at1 [0] (M2 := []) (hc1) (by decide) ?_ ?_ rfl ?_); (· repeat (first | exact Keeps.nil | (refine Keeps.cons _ _ _ _ _ rfl rfl ?_ ?_; (· first | exact a2_p _ _ | exact a2_1 rfl | exact a2_I _ _)))); (· repeat (first | exact All2.nil | (refine All2.cons _ _ _ _ ?_ ?_; (· first | exact rnT_eX rfl rfl | exact rnT_prim | exact rnT_sl | exact rnT_ref rfl | exact rnT_agg rfl | exact rnT_own rfl | exact rnT_eX5 rfl rfl)))); try simp -implicitDefEqProofs only [go_sem, z1, z2, z3, z4, z5, z6, z7, z8, z9, za, zb, zc, ↓reduceIte, *])
    ((with_reducible refine expG_two 5 6 ?_ ?_ ?_); (· decide +kernel); all_goals (try simp -implicitDefEqProofs only [go_sem, z1, z2, z3, z4, z5, z6, z7, z8, z9, za, zb, zc, ↓reduceIte, *]))
    · ((with_reducible refine enter_at1 [1] (M2 := []) (hc2) (by decide) ?_ ?_ rfl ?_); (· repeat (first | exact Keeps.nil | (refine Keeps.cons _ _ _ _ _ rfl rfl ?_ ?_; (· first | exact a2_p _ _ | exact a2_1 rfl | exact a2_I _ _)))); (· repeat (first | exact All2.nil | (refine All2.cons _ _ _ _ ?_ ?_; (· first | exact rnT_eX rfl rfl | exact rnT_prim | exact rnT_sl | exact rnT_ref rfl | exact rnT_agg rfl | exact rnT_own rfl | exact rnT_eX5 rfl rfl)))); try simp -implicitDefEqProofs only [go_sem, z1, z2, z3, z4, z5, z6, z7, z8, z9, za, zb, zc, ↓reduceIte, *])
      ((with_reducible refine expG_one 6 ?_ ?_); (· decide +kernel); try simp -implicitDefEqProofs only [go_sem, z1, z2, z3, z4, z5, z6, z7, z8, z9, za, zb, zc, ↓reduceIte, *])
      (repeat' (first | ((with_reducible first | refine gon ?_ ?_ | refine gos ?_ ?_ | refine cdn ?_ ?_ | refine cds ?_ ?_ | refine gpn ?_ ?_ | refine gps ?_ ?_) <;> intro h <;> (try simp only [dt, df, gi, gt] at h) <;> try simp -implicitDefEqProofs only [go_sem, z1, z2, z3, z4, z5, z6, z7, z8, z9, za, zb, zc, ↓reduceIte, *]) | ((with_reducible refine And.intro ?_ ?_); (· first | omega | (simp only [List.length_take]; omega)); try simp -implicitDefEqProofs only [go_sem, z1, z2, z3, z4, z5, z6, z7, z8, z9, za, zb, zc, ↓reduceIte, *]) | first | ((refine expG_new 9 rfl ?_ ?_); (· decide +kernel); simp -implicitDefEqProofs only [go_sem, z1, z2, z3, z4, z5, z6, z7, z8, z9, za, zb, zc, ↓reduceIte, *]) | ((with_reducible refine expG_one 14 ?_ ?_); (· decide +kernel); try simp -implicitDefEqProofs only [go_sem, z1, z2, z3, z4, z5, z6, z7, z8, z9, za, zb, zc, ↓reduceIte, *]) | ((with_reducible refine expG_one 15 ?_ ?_); (· decide +kernel); try simp -implicitDefEqProofs only [go_sem, z1, z2, z3, z4, z5, z6, z7, z8, z9, za, zb, zc, ↓reduceIte, *]) | ((with_reducible refine expG_end ?_ ?_); (· decide +kernel); try simp -implicitDefEqProofs only [go_sem, z1, z2, z3, z4, z5, z6, z7, z8, z9, za, zb, zc, ↓reduceIte, *])))
      exact fin_move [4, 5, 7] [0, 1] (by simp) rfl (by decide) (keep3 (o3 := ⟨8, e.log.map rA⟩) rfl rfl rfl (a2_p _ _) (a2_p _ _) (a2_r _ _)) (hm01 rfl) (rnT_eL rfl rfl rfl) ⟨rfl, rfl, rfl⟩
    · ((with_reducible refine expG_one 5 ?_ ?_); (· decide +kernel); try simp -implicitDefEqProofs only [go_sem, z1, z2, z3, z4, z5, z6, z7, z8, z9, za, zb, zc, ↓reduceIte, *])
      ((with_reducible refine enter_at1 [1] (M2 := []) (hc2) (by decide) ?_ ?_ rfl ?_); (· repeat (first | exact Keeps.nil | (refine Keeps.cons _ _ _ _ _ rfl rfl ?_ ?_; (· first | exact a2_p _ _ | exact a2_1 rfl | exact a2_I _ _)))); (· repeat (first | exact All2.nil | (refine All2.cons _ _ _ _ ?_ ?_; (· first | exact rnT_eX rfl rfl | exact rnT_prim | exact rnT_sl | exact rnT_ref rfl | exact rnT_agg rfl | exact rnT_own rfl | exact rnT_eX5 rfl rfl)))); try simp -implicitDefEqProofs only [go_sem, z1, z2, z3, z4, z5, z6, z7, z8, z9, za, zb, zc, ↓reduceIte, *])
      (repeat' (first | ((with_reducible first | refine gon ?_ ?_ | refine gos ?_ ?_ | refine cdn ?_ ?_ | refine cds ?_ ?_ | refine gpn ?_ ?_ | refine gps ?_ ?_) <;> intro h <;> (try simp only [dt, df, gi, gt] at h) <;> try simp -implicitDefEqProofs only [go_sem, z1, z2, z3, z4, z5, z6, z7, z8, z9, za, zb, zc, ↓reduceIte, *]) | ((with_reducible refine And.intro ?_ ?_); (· first | omega | (simp only [List.length_take]; omega)); try simp -implicitDefEqProofs only [go_sem, z1, z2, z3, z4, z5, z6, z7, z8, z9, za, zb, zc, ↓reduceIte, *]) | first | ((refine expG_new 9 rfl ?_ ?_); (· decide +kernel); simp -implicitDefEqProofs only [go_sem, z1, z2, z3, z4, z5, z6, z7, z8, z9, za, zb, zc, ↓reduceIte, *]) | ((with_reducible refine expG_one 14 ?_ ?_); (· decide +kernel); try simp -implicitDefEqProofs only [go_sem, z1, z2, z3, z4, z5, z6, z7, z8, z9, za, zb, zc, ↓reduceIte, *]) | ((with_reducible refine expG_one 15 ?_ ?_); (· decide +kernel); try simp -implicitDefEqProofs only [go_sem, z1, z2, z3, z4, z5, z6, z7, z8, z9, za, zb, zc, ↓reduceIte, *]) | ((with_reducible refine expG_end ?_ ?_); (· decide +kernel); try simp -implicitDefEqProofs only [go_sem, z1, z2, z3, z4, z5, z6, z7, z8, z9, za, zb, zc, ↓reduceIte, *])))
      exact fin_move [4, 6, 7] [0, 1] (by simp) rfl (by decide) (keep3 (o3 := ⟨8, e.log.map rA⟩) rfl rfl rfl (a2_p _ _) (a2_p _ _) (a2_r _ _)) (hm01 rfl) (rnT_eL rfl rfl rfl) ⟨rfl, rfl, rfl⟩
  · ((with_reducible refine expG_one 2 ?_ ?_); (· decide +kernel); try simp -implicitDefEqProofs only [go_sem, z1, z2, z3, z4, z5, z6, z7, z8, z9, za, zb, zc, ↓reduceIte, *])
    ((with_reducible refine enter_at1 [0] (M2 := []) (hc1) (by decide) ?_ ?_ rfl ?_); (· repeat (first | exact Keeps.nil | (refine Keeps.cons _ _ _ _ _ rfl rfl ?_ ?_; (· first | exact a2_p _ _ | exact a2_1 rfl | exact a2_I _ _)))); (· repeat (first | exact All2.nil | (refine All2.cons _ _ _ _ ?_ ?_; (· first | exact rnT_eX rfl rfl | exact rnT_prim | exact rnT_sl | exact rnT_ref rfl | exact rnT_agg rfl | exact rnT_own rfl | exact rnT_eX5 rfl rfl)))); try simp -implicitDefEqProofs only [go_sem, z1, z2, z3, z4, z5, z6, z7, z8, z9, za, zb, zc, ↓reduceIte, *])
    ((with_reducible refine expG_one 5 ?_ ?_); (· decide +kernel); try simp -implicitDefEqProofs only [go_sem, z1, z2, z3, z4, z5, z6, z7, z8, z9, za, zb, zc, ↓reduceIte, *])
    ((with_reducible refine enter_at1 [1] (M2 := []) (hc2) (by decide) ?_ ?_ rfl ?_); (· repeat (first | exact Keeps.nil | (refine Keeps.cons _ _ _ _ _ rfl rfl ?_ ?_; (· first | exact a2_p _ _ | exact a2_1 rfl | exact a2_I _ _)))); (· repeat (first | exact All2.nil | (refine All2.cons _ _ _ _ ?_ ?_; (· first | exact rnT_eX rfl rfl | exact rnT_prim | exact rnT_sl | exact rnT_ref rfl | exact rnT_agg rfl | exact rnT_own rfl | exact rnT_eX5 rfl rfl)))); try simp -implicitDefEqProofs only [go_sem, z1, z2, z3, z4, z5, z6, z7, z8, z9, za, zb, zc, ↓reduceIte, *])
    (repeat' (first | ((with_reducible first | refine gon ?_ ?_ | refine gos ?_ ?_ | refine cdn ?_ ?_ | refine cds ?_ ?_ | refine gpn ?_ ?_ | refine gps ?_ ?_) <;> intro h <;> (try simp only [dt, df, gi, gt] at h) <;> try simp -implicitDefEqProofs only [go_sem, z1, z2, z3, z4, z5, z6, z7, z8, z9, za, zb, zc, ↓reduceIte, *]) | ((with_reducible refine And.intro ?_ ?_); (· first | omega | (simp only [List.length_take]; omega)); try simp -implicitDefEqProofs only [go_sem, z1, z2, z3, z4, z5, z6, z7, z8, z9, za, zb, zc, ↓reduceIte, *]) | first | ((refine expG_new 9 rfl ?_ ?_); (· decide +kernel); simp -implicitDefEqProofs only [go_sem, z1, z2, z3, z4, z5, z6, z7, z8, z9, za, zb, zc, ↓reduceIte, *]) | ((with_reducible refine expG_one 14 ?_ ?_); (· decide +kernel); try simp -implicitDefEqProofs only [go_sem, z1, z2, z3, z4, z5, z6, z7, z8, z9, za, zb, zc, ↓reduceIte, *]) | ((with_reducible refine expG_one 15 ?_ ?_); (· decide +kernel); try simp -implicitDefEqProofs only [go_sem, z1, z2, z3, z4, z5, z6, z7, z8, z9, za, zb, zc, ↓reduceIte, *]) | ((with_reducible refine expG_end ?_ ?_); (· decide +kernel); try simp -implicitDefEqProofs only [go_sem, z1, z2, z3, z4, z5, z6, z7, z8, z9, za, zb, zc, ↓reduceIte, *])))
    exact fin_move [5, 6, 7] [0, 1] (by simp) rfl (by decide) (keep3 (o3 := ⟨8, e.log.map rA⟩) rfl rfl rfl (a2_p _ _) (a2_p _ _) (a2_r _ _)) (hm01 rfl) (rnT_eL rfl rfl rfl) ⟨rfl, rfl, rfl⟩
theorem l11Pages_own : Fn Tryz.prog 194 [] (fun r S => r = .own 0 3 0 5 ∧ S = [oP newPs]) := by
  refine fn_of Tryz.func194 rfl rfl ?_
  simp -implicitDefEqProofs only [go_sem, z1, z2, z3, z4, z5, z6, z7, z8, z9, za, zb, zc, ↓reduceIte, Tryz.f194]
  refine cp_loop (fun i : Nat => ⟨(nilS :: .own 0 3 0 i :: I (i : Int) :: .any :: .any :: .any :: .any :: .any :: .any :: .any :: .any :: .any :: .any :: []), [some ⟨3, (newPs.take i).map pA⟩], [0]⟩) (fun i => i ≤ 5) (fun i => 5 - i) 0 ?_ ?_ ?_
  · simp
  · refine WkN.trans (wk_tm ?_) (wk_mv (by simp))
    repeat (first | exact WL.nil | (with_reducible refine WL.any _ _ _ ?_) | (with_reducible refine WL.same _ _ _ ?_) | (refine WL.eq _ _ _ _ rfl ?_))
  · rintro i hi
    have hb' : i < 4611686018427387904 := by omega
    by_cases hil : i < 5
    · have hl1 : (i : Int) < 5 := by omega
      simp -implicitDefEqProofs only [go_sem, z1, z2, z3, z4, z5, z6, z7, z8, z9, za, zb, zc, ↓reduceIte, hl1]
      (repeat' (first | ((with_reducible first | refine gon ?_ ?_ | refine gos ?_ ?_ | refine cdn ?_ ?_ | refine cds ?_ ?_ | refine gpn ?_ ?_ | refine gps ?_ ?_) <;> intro h <;> (try simp only [dt, df, gi, gt] at h) <;> try simp -implicitDefEqProofs only [go_sem, z1, z2, z3, z4, z5, z6, z7, z8, z9, za, zb, zc, ↓reduceIte, *]) | ((with_reducible refine And.intro ?_ ?_); (· first | omega | (simp only [List.length_take]; omega)); try simp -implicitDefEqProofs only [go_sem, z1, z2, z3, z4, z5, z6, z7, z8, z9, za, zb, zc, ↓reduceIte, *]) | ((with_reducible refine enter_pu (PageNew_fn) ?_ ?_ ?_); (· rfl); (· rfl); try simp -implicitDefEqProofs only [go_sem, z1, z2, z3, z4, z5, z6, z7, z8, z9, za, zb, zc, ↓reduceIte, *])))
      have e : List.take i newPs ++ [newP] = List.take (i + 1) newPs := by
        have := take_at newPs i (by simpa [newPs] using hil)
        rw [at_newPs hil] at this
        exact this
      refine ⟨⟨by simp [newPs]; omega, by omega⟩, ?_⟩
      rw [e]
      refine ⟨i + 1, by omega, by omega, ?_⟩
      refine WkN.trans (WkN.trans (wk_tm ?_) (wk_trunc (S := [some ⟨3, (newPs.take (i + 1)).map pA⟩]) (Nat.le_refl _) rfl (by first | rfl | (simp only [sltB, List.all_cons, List.all_nil, slt_p, slt_I, slt_r, Bool.and_true]; done) | (simp only [sltB, List.all_cons, List.all_nil, slt_p, slt_I, slt_r, Bool.and_true]; rfl)))) (wk_mv (by simp)); repeat (first | exact WL.nil | (with_reducible refine WL.any _ _ _ ?_) | (with_reducible refine WL.same _ _ _ ?_) | (refine WL.eq _ _ _ _ rfl ?_))
    · have hl1 : ¬ (i : Int) < 5 := by omega
      have e : i = 5 := by omega
      simp -implicitDefEqProofs only [go_sem, z1, z2, z3, z4, z5, z6, z7, z8, z9, za, zb, zc, ↓reduceIte, hl1]
      subst e
      exact fin_keep [0] (by simp) rfl (keep1 rfl (a2_p _ _)) (rt_own _ rfl) ⟨rfl, rfl⟩
theorem EngineNew_own : Fn Tryz.prog 167 [] (fun r S => r = eX 0 1 newE ∧ S = sO newE) := by
  refine fn_of Tryz.func167 rfl rfl ?_
  simp -implicitDefEqProofs only [go_sem, z1, z2, z3, z4, z5, z6, z7, z8, z9, za, zb, zc, ↓reduceIte, Tryz.f167]
  (repeat' (first | ((with_reducible first | refine gon ?_ ?_ | refine gos ?_ ?_ | refine cdn ?_ ?_ | refine cds ?_ ?_ | refine gpn ?_ ?_ | refine gps ?_ ?_) <;> intro h <;> (try simp only [dt, df, gi, gt] at h) <;> try simp -implicitDefEqProofs only [go_sem, z1, z2, z3, z4, z5, z6, z7, z8, z9, za, zb, zc, ↓reduceIte, *]) | ((with_reducible refine And.intro ?_ ?_); (· first | omega | (simp only [List.length_take]; omega)); try simp -implicitDefEqProofs only [go_sem, z1, z2, z3, z4, z5, z6, z7, z8, z9, za, zb, zc, ↓reduceIte, *]) | ((with_reducible refine enter_fn (l11Pages_own) ?_ ?_); (· rfl); try simp -implicitDefEqProofs only [go_sem, z1, z2, z3, z4, z5, z6, z7, z8, z9, za, zb, zc, ↓reduceIte, *])))
  exact fin_drop [1, 2] [] (by simp) rfl (by decide) (keep2 (o1 := ⟨3, newPs.map pA⟩) (o2 := ⟨3, newPs.map pA⟩) rfl rfl (a2_p _ _) (a2_p _ _)) (fun i hi => absurd hi (Nat.not_lt_zero _)) (.of _ _ (rd_eX (k := 3) (e := newE) rfl rfl (by decide) (by decide) rfl rfl)) ⟨⟨rfl, rfl⟩, rfl⟩
theorem keep4 {a b c d : Nat} {S : Store} {o1 o2 o3 o4 : AObj} (h1 : getO S a = some o1) (h2 : getO S b = some o2) (h3 : getO S c = some o3) (h4 : getO S d = some o4) (e1 : All2 (Rn1 [a, b, c, d]) o1.es o1.es) (e2 : All2 (Rn1 [a, b, c, d]) o2.es o2.es) (e3 : All2 (Rn1 [a, b, c, d]) o3.es o3.es) (e4 : All2 (Rn1 [a, b, c, d]) o4.es o4.es) :
    ∀ (j k : Nat), [a, b, c, d][j]? = some k → ∃ (o o' : AObj), getO S k = some o ∧ [some o1, some o2, some o3, some o4][j]? = some (some o') ∧ o'.z = o.z ∧ All2 (Rn1 [a, b, c, d]) o.es o'.es := by
  intro j k hj
  rcases j with _ | _ | _ | _ | j
  · simp at hj; subst hj; exact ⟨o1, o1, h1, rfl, rfl, e1⟩
  · simp at hj; subst hj; exact ⟨o2, o2, h2, rfl, rfl, e2⟩
  · simp at hj; subst hj; exact ⟨o3, o3, h3, rfl, rfl, e3⟩
  · simp at hj; subst hj; exact ⟨o4, o4, h4, rfl, rfl, e4⟩
  · simp at hj
theorem hdR {K : List Nat} {S : Store} {mv : List Nat} {o : AObj} (h : getO S 0 = some o) (hn : o.es ≠ []) (m0 : mv.contains 0 = false) (hK : K[0]? = some 0) : ∀ i, i < 1 → mv.contains i = false ∧ (∃ o, getO S i = some o ∧ o.es ≠ []) ∧ (([] : List Nat).contains i = false → K[i]? = some i) := by
  intro i hi
  obtain rfl : i = 0 := by omega
  exact ⟨m0, ⟨_, h, hn⟩, fun _ => hK⟩
theorem rd_eL {K : List Nat} {S : Store} {n0 a b c i j k n : Nat} {s : Int} {d : Bool} (h0 : K[a]? = some i) (h1 : K[b]? = some j) (h2 : K[c]? = some k) : Rd1 K S n0 (.agg [.own i 3 0 5, .own j 3 0 5, .own k 8 0 n, I s, Bo d]) (.agg [.own a 3 0 5, .own b 3 0 5, .own c 8 0 n, I s, Bo d]) :=
  .agg _ _ (.cons _ _ _ _ (.rn _ _ (.own _ _ _ _ _ h0)) (.cons _ _ _ _ (.rn _ _ (.own _ _ _ _ _ h1)) (.cons _ _ _ _ (.rn _ _ (.own _ _ _ _ _ h2)) (.cons _ _ _ _ (.rn _ _ (.same _ rfl)) (.cons _ _ _ _ (.rn _ _ (.same _ rfl)) .nil)))))
theorem l71Play_c (l : List Int) (p : Nat) (hC : Cod l) (hp : p < 800000) : AFnX Tryz.prog 130 [.ref 0 2 0 0] [oR l p] (fun q : Eng × Nat => PInv q.1 ∧ p ≤ q.2 ∧ q.2 ≤ p + 800) (fun q => .tup [.any, eL 1 2 3 q.1]) (fun q => [oR l q.2, oP q.1.disk, oP q.1.mem, oL q.1.log]) [] := by
  refine afnx_of Tryz.func130 rfl rfl ?_
  simp -implicitDefEqProofs only [go_sem, z1, z2, z3, z4, z5, z6, z7, z8, z9, za, zb, zc, ↓reduceIte, Tryz.f130]
  (repeat' (first | ((with_reducible first | refine gon ?_ ?_ | refine gos ?_ ?_ | refine cdn ?_ ?_ | refine cds ?_ ?_ | refine gpn ?_ ?_ | refine gps ?_ ?_) <;> intro h <;> (try simp only [dt, df, gi, gt] at h) <;> try simp -implicitDefEqProofs only [go_sem, z1, z2, z3, z4, z5, z6, z7, z8, z9, za, zb, zc, ↓reduceIte, *]) | ((with_reducible refine And.intro ?_ ?_); (· first | omega | (simp only [List.length_take]; omega)); try simp -implicitDefEqProofs only [go_sem, z1, z2, z3, z4, z5, z6, z7, z8, z9, za, zb, zc, ↓reduceIte, *]) | first | ((with_reducible refine enter_fn (EngineNew_own) ?_ ?_); (· rfl); try simp -implicitDefEqProofs only [go_sem, z1, z2, z3, z4, z5, z6, z7, z8, z9, za, zb, zc, ↓reduceIte, *]) | ((with_reducible refine pick_at hC ?_ ?_ ?_); (· omega); (· first | decide | omega); rintro k hk; try simp -implicitDefEqProofs only [go_sem, z1, z2, z3, z4, z5, z6, z7, z8, z9, za, zb, zc, ↓reduceIte, *])))
  have hk' : 0 ≤ k ∧ k < 37 := hk
  obtain ⟨m0, hm0, rfl⟩ : ∃ m0 : Nat, m0 ≤ 36 ∧ k = (m0 : Int) := ⟨k.toNat, by omega, by omega⟩
  refine cp_loop (fun q : Nat × Eng × Nat × List Ev => ⟨(.ref 0 2 0 0 :: .any :: nilS :: .ref 1 5 0 0 :: .ref 4 5 0 0 :: .own 5 6 0 q.2.2.2.length :: I (q.1 : Int) :: .any :: .any :: .any :: .any :: .any :: .any :: .any :: .any :: .any :: .any :: .any :: .any :: .any :: .any :: .any :: .any :: .any :: .any :: .any :: .any :: .any :: .any :: []), [oR l q.2.2.1, some ⟨5, [.agg [.prim (.slice none 0 0), .prim (.slice none 0 0), .prim (.slice none 0 0), I 0, Bo false]]⟩, oP q.2.1.disk, oP q.2.1.mem, some ⟨5, [eX 2 3 q.2.1]⟩, some ⟨6, q.2.2.2.map evA⟩], [5, 3]⟩)
    (fun q => q.1 ≤ 36 ∧ PInv q.2.1 ∧ p ≤ q.2.2.1 ∧ q.2.2.1 + 20 * q.1 ≤ p + 730 ∧ q.2.2.2.length + q.1 ≤ 36) (fun q => q.1) (m0, newE, p + 1, []) ?_ ?_ ?_
  · exact ⟨hm0, newE_inv, by simp only; omega, by simp only; omega, by simp only [List.length_nil]; omega⟩
  · refine WkN.trans (wk_tm ?_) (wk_mv (by simp))
    repeat (first | exact WL.nil | (with_reducible refine WL.any _ _ _ ?_) | (with_reducible refine WL.same _ _ _ ?_) | (refine WL.eq _ _ _ _ rfl ?_))
  · rintro ⟨m, c, p', vs⟩ ⟨hm, hic, hp1, hp2, hvl⟩
    simp only at hm hic hp1 hp2 hvl
    have hi := hic.toInv
    have hcd := hi.disk.len
    have hcm := hi.mem.len
    have hcl := hi.len
    rcases m with _ | m
    · have hcp := l11Copy_o c hi
      simp -implicitDefEqProofs only [go_sem, z1, z2, z3, z4, z5, z6, z7, z8, z9, za, zb, zc, ↓reduceIte, true_and]
      (repeat' (first | ((with_reducible first | refine gon ?_ ?_ | refine gos ?_ ?_ | refine cdn ?_ ?_ | refine cds ?_ ?_ | refine gpn ?_ ?_ | refine gps ?_ ?_) <;> intro h <;> (try simp only [dt, df, gi, gt] at h) <;> try simp -implicitDefEqProofs only [go_sem, z1, z2, z3, z4, z5, z6, z7, z8, z9, za, zb, zc, ↓reduceIte, *]) | ((with_reducible refine And.intro ?_ ?_); (· first | omega | (simp only [List.length_take]; omega)); try simp -implicitDefEqProofs only [go_sem, z1, z2, z3, z4, z5, z6, z7, z8, z9, za, zb, zc, ↓reduceIte, *]) | ((with_reducible refine enter_at1 [2, 3] (M2 := [2, 3]) (hcp) (by decide) ?_ ?_ rfl ?_); (· repeat (first | exact Keeps.nil | (refine Keeps.cons _ _ _ _ _ rfl rfl ?_ ?_; (· first | exact a2_p _ _ | exact a2_1 rfl | exact a2_I _ _)))); (· repeat (first | exact All2.nil | (refine All2.cons _ _ _ _ ?_ ?_; (· first | exact rnT_eX rfl rfl | exact rnT_prim | exact rnT_sl | exact rnT_ref rfl | exact rnT_agg rfl | exact rnT_own rfl | exact rnT_eX5 rfl rfl)))); try simp -implicitDefEqProofs only [go_sem, z1, z2, z3, z4, z5, z6, z7, z8, z9, za, zb, zc, ↓reduceIte, *])))
      exact fin_drop [0, 2, 3, 6] [] (by simp) rfl (by decide) (keep4 (o1 := ⟨2, [.agg [bts l, I (p' : Int)]]⟩) (o2 := ⟨3, c.disk.map pA⟩) (o3 := ⟨3, c.mem.map pA⟩) (o4 := ⟨8, c.log.map rA⟩) rfl rfl rfl rfl (a2_1 rfl) (a2_p _ _) (a2_p _ _) (a2_r _ _)) (hdR (o := ⟨2, [.agg [bts l, I (p' : Int)]]⟩) rfl (by simp) rfl rfl)
        (.tup _ _ (.cons _ _ _ _ (.any _) (.cons _ _ _ _ (rd_eL (a := 1) (b := 2) (c := 3) rfl rfl rfl) .nil))) ⟨(c, p'), ⟨hic, hp1, by simp only; omega⟩, rfl, rfl, rfl⟩
    · have hmb : m < 4611686018427387904 := by omega
      simp -implicitDefEqProofs only [go_sem, z1, z2, z3, z4, z5, z6, z7, z8, z9, za, zb, zc, ↓reduceIte, true_and]
      (repeat' (first | ((with_reducible first | refine gon ?_ ?_ | refine gos ?_ ?_ | refine cdn ?_ ?_ | refine cds ?_ ?_ | refine gpn ?_ ?_ | refine gps ?_ ?_) <;> intro h <;> (try simp only [dt, df, gi, gt] at h) <;> try simp -implicitDefEqProofs only [go_sem, z1, z2, z3, z4, z5, z6, z7, z8, z9, za, zb, zc, ↓reduceIte, *]) | ((with_reducible refine And.intro ?_ ?_); (· first | omega | (simp only [List.length_take]; omega)); try simp -implicitDefEqProofs only [go_sem, z1, z2, z3, z4, z5, z6, z7, z8, z9, za, zb, zc, ↓reduceIte, *]) | ((with_reducible refine enter_at [0, 2, 3] (M2 := []) (l71Event_c l p' c hC (by omega) hi) (by decide) ?_ ?_ rfl ?_); (· repeat (first | exact Keeps.nil | (refine Keeps.cons _ _ _ _ _ rfl rfl ?_ ?_; (· first | exact a2_p _ _ | exact a2_1 rfl | exact a2_I _ _)))); (· repeat (first | exact All2.nil | (refine All2.cons _ _ _ _ ?_ ?_; (· first | exact rnT_eX rfl rfl | exact rnT_prim | exact rnT_sl | exact rnT_ref rfl | exact rnT_agg rfl | exact rnT_own rfl | exact rnT_eX5 rfl rfl)))); rintro ⟨v, p2⟩ ⟨hv, h1, h2⟩; try simp -implicitDefEqProofs only [go_sem, z1, z2, z3, z4, z5, z6, z7, z8, z9, za, zb, zc, ↓reduceIte, *])))
      simp only at hv h1 h2
      have hdo := l22Do_c c v hi hv
      (repeat' (first | ((with_reducible first | refine gon ?_ ?_ | refine gos ?_ ?_ | refine cdn ?_ ?_ | refine cds ?_ ?_ | refine gpn ?_ ?_ | refine gps ?_ ?_) <;> intro h <;> (try simp only [dt, df, gi, gt] at h) <;> try simp -implicitDefEqProofs only [go_sem, z1, z2, z3, z4, z5, z6, z7, z8, z9, za, zb, zc, ↓reduceIte, *]) | ((with_reducible refine And.intro ?_ ?_); (· first | omega | (simp only [List.length_take]; omega)); try simp -implicitDefEqProofs only [go_sem, z1, z2, z3, z4, z5, z6, z7, z8, z9, za, zb, zc, ↓reduceIte, *]) | ((with_reducible refine enter_at1 [2, 3] (M2 := [3]) (hdo) (by decide) ?_ ?_ rfl ?_); (· repeat (first | exact Keeps.nil | (refine Keeps.cons _ _ _ _ _ rfl rfl ?_ ?_; (· first | exact a2_p _ _ | exact a2_1 rfl | exact a2_I _ _)))); (· repeat (first | exact All2.nil | (refine All2.cons _ _ _ _ ?_ ?_; (· first | exact rnT_eX rfl rfl | exact rnT_prim | exact rnT_sl | exact rnT_ref rfl | exact rnT_agg rfl | exact rnT_own rfl | exact rnT_eX5 rfl rfl)))); try simp -implicitDefEqProofs only [go_sem, z1, z2, z3, z4, z5, z6, z7, z8, z9, za, zb, zc, ↓reduceIte, *])))
      refine ⟨(m, c.evDo v, p2, vs ++ [v]), ⟨by simp only; omega, evDo_inv hic v, by simp only; omega, by simp only; omega, by simp only [List.length_append, List.length_singleton]; omega⟩, by simp only; omega, ?_⟩
      simp only [List.length_append, List.length_singleton]
      refine WkN.trans (WkN.trans (wk_tm ?_) (wk_trunc (S := [oR l p2, some ⟨5, [.agg [.prim (.slice none 0 0), .prim (.slice none 0 0), .prim (.slice none 0 0), I 0, Bo false]]⟩, oP (c.evDo v).disk, oP (c.evDo v).mem, some ⟨5, [eX 2 3 (c.evDo v)]⟩, some ⟨6, (vs ++ [v]).map evA⟩]) (Nat.le_refl _) rfl ?_)) (wk_mv (by simp))
      rotate_left
      · simp only [sltB, List.all_cons, List.all_nil, slt_p, slt_ev, Bool.and_true]
        rfl
      repeat (first | exact WL.nil | (with_reducible refine WL.any _ _ _ ?_) | (with_reducible refine WL.same _ _ _ ?_) | (refine WL.eq _ _ _ _ rfl ?_))
end Go.Proofs.YtihplpffmdeldaaGreat.Am
end
section
set_option linter.unusedVariables false
set_option linter.unusedSimpArgs false
set_option maxRecDepth 100000
set_option maxHeartbeats 8000000
namespace Go.Proofs.YtihplpffmdeldaaGreat.Am
open Go Go.RowKit Go.Proofs
open Nat renaming reduceAdd → z1, reduceSub → z2, reduceMul → z3, reduceLT → z4, reduceLeDiff → z5, reduceEqDiff → z6
open Int renaming reduceBEq → z7, reduceBNe → z8, reduceNeg → z9, reduceSub → za, reduceLE → zb, reduceLT → zc
attribute [local congr] opsP_congr codeP_congr AWP_congr afterR_congr preP_congr afterPre_congr gPre_congr gOps_congr condP_congr stepE_congr
attribute [local go_sem] ty_int ty_bool ty_str ty_u8 ty_ints ty_bytes ty_page ty_pages ty_lpage ty_lpages ty_rec ty_recs ty_lrec ty_lrecs ty_eng ty_leng
attribute [local go_sem] true_and and_true beq_true' beq_false' toNat_cast Int.natCast_nonneg Bool.not_not Bool.not_true Bool.not_false decide_true decide_false Bool.or_false Bool.false_or Bool.or_true Bool.true_or Bool.and_false Bool.false_and Nat.zero_add Int.toNat_of_nonneg wrap_succ wrap_m1 wrap_nat succ_m1 cast0 succ_pos' succ_ne' succ_bne' ge_iff_le gt_iff_lt if_true if_false
attribute [local go_sem] slt_r slt_I slt_p ty_rd ty_ev ty_evs
@[go_sem] theorem buildO_2 {tm : List AV} {b : Bool} {z0 z1 : Value} {n : Nat} {parts : List (Nat × Operand)} : buildO tm (some ⟨b, [z0, z1], n, .struct [0, 1]⟩) parts = fillV (fillR [0, 1] tm [.prim z0, .prim z1] parts) := rfl
theorem at_reader {f : FuncId} {l : List Int} {p : Nat} {X : Type} {J : X → Prop} {R : X → AV} {pos : X → Nat} {d : Tmp} {tm : List AV} {T : Store} {mv : List Nat} {K : St → Prop} (h : AFnX Tryz.prog f [.ref 0 2 0 0] [oR l p] J R (fun q => [oR l (pos q)]) [])
    (hR : ∀ q ρ, (R q).rn ρ = R q) (hk : ∀ q, J q → K ⟨tm.set d (R q), oR l (pos q) :: T, mv⟩) : afterR Tryz.prog (.enter f [.ref 0 2 0 0]) (some d) ⟨tm, oR l p :: T, mv⟩ K := by
  refine enter_at [0] (M2 := []) h (by decide) (.cons _ _ _ _ _ rfl rfl (a2_1 rfl) .nil) (.cons _ _ _ _ (rnT_ref rfl) .nil) rfl fun q hq => ?_
  have := hk q hq
  rw [hR]
  simpa only [scT_nil, scS_nil, putS_cons, putS_nil, List.set_cons_zero, rnO_agg, rn0_sl, rn0_prim, List.map_cons, List.map_nil, List.nil_append] using this
theorem fin_log {l : List Int} {lg : List Rc} {p p' off len : Nat} {T : Store} {mv : List Nat} (ho : getO (oR l p' :: T) 3 = some ⟨8, lg.map rA⟩) (hl : off + len ≤ lg.length) (hg : lg.length ≤ 151) (m0 : mv.contains 0 = false) (h1 : p ≤ p') (h2 : p' ≤ p + 850) :
    Fin 1 (.own 3 8 off len) (oR l p' :: T) mv (fun r S' mv => ∃ x : List Rc × Nat, (x.1.length ≤ 151 ∧ p ≤ x.2 ∧ x.2 ≤ p + 850) ∧ r = recs x.1 ∧ S' = [oR l x.2] ∧ mv = []) :=
  fin_drop [0] [] (by simp) rfl (by decide) (keep1 (ob := ⟨2, [.agg [bts l, I (p' : Int)]]⟩) rfl (a2_1 rfl)) (hdR (o := ⟨2, [.agg [bts l, I (p' : Int)]]⟩) rfl (by simp) m0 rfl)
    (.of _ _ (.of _ _ (.drop 3 8 off len _ ((lg.drop off).take len |>.map rD) (by decide) (by decide) ho rfl (by simpa using hl) (by simp only [← List.map_drop, ← List.map_take]; exact isDs_r _)))) ⟨((lg.drop off).take len, p'), ⟨by simp; omega, h1, h2⟩, rfl, rfl, rfl⟩
theorem l71Log_c (l : List Int) (p : Nat) (hC : Cod l) (hp : p < 700000) : AFnX Tryz.prog 132 [.ref 0 2 0 0] [oR l p] (fun q : List Rc × Nat => q.1.length ≤ 151 ∧ p ≤ q.2 ∧ q.2 ≤ p + 850) (fun q => recs q.1) (fun q => [oR l q.2]) [] := by
  refine afnx_of Tryz.func132 rfl rfl ?_
  simp -implicitDefEqProofs only [go_sem, z1, z2, z3, z4, z5, z6, z7, z8, z9, za, zb, zc, ↓reduceIte, Tryz.f132]
  (repeat' (first | ((with_reducible first | refine gon ?_ ?_ | refine gos ?_ ?_ | refine cdn ?_ ?_ | refine cds ?_ ?_ | refine gpn ?_ ?_ | refine gps ?_ ?_) <;> intro h <;> (try simp only [dt, df, gi, gt] at h) <;> try simp -implicitDefEqProofs only [go_sem, z1, z2, z3, z4, z5, z6, z7, z8, z9, za, zb, zc, ↓reduceIte, *]) | ((with_reducible refine And.intro ?_ ?_); (· first | omega | (simp only [List.length_take]; omega)); try simp -implicitDefEqProofs only [go_sem, z1, z2, z3, z4, z5, z6, z7, z8, z9, za, zb, zc, ↓reduceIte, *]) | ((with_reducible refine enter_at [0] (M2 := []) (l71Play_c l p hC (by omega)) (by decide) ?_ ?_ rfl ?_); (· repeat (first | exact Keeps.nil | (refine Keeps.cons _ _ _ _ _ rfl rfl ?_ ?_; (· first | exact a2_p _ _ | exact a2_1 rfl | exact a2_I _ _)))); (· repeat (first | exact All2.nil | (refine All2.cons _ _ _ _ ?_ ?_; (· first | exact rnT_eX rfl rfl | exact rnT_prim | exact rnT_sl | exact rnT_ref rfl | exact rnT_agg rfl | exact rnT_own rfl | exact rnT_eX5 rfl rfl)))); rintro ⟨c, p1⟩ ⟨hic, hp1, hp2⟩; try simp -implicitDefEqProofs only [go_sem, z1, z2, z3, z4, z5, z6, z7, z8, z9, za, zb, zc, ↓reduceIte, *])))
  simp only at hic hp1 hp2
  have hcl := hic.toInv.len
  (repeat' (first | ((with_reducible first | refine gon ?_ ?_ | refine gos ?_ ?_ | refine cdn ?_ ?_ | refine cds ?_ ?_ | refine gpn ?_ ?_ | refine gps ?_ ?_) <;> intro h <;> (try simp only [dt, df, gi, gt] at h) <;> try simp -implicitDefEqProofs only [go_sem, z1, z2, z3, z4, z5, z6, z7, z8, z9, za, zb, zc, ↓reduceIte, *]) | ((with_reducible refine And.intro ?_ ?_); (· first | omega | (simp only [List.length_take]; omega)); try simp -implicitDefEqProofs only [go_sem, z1, z2, z3, z4, z5, z6, z7, z8, z9, za, zb, zc, ↓reduceIte, *]) | first | ((with_reducible refine pick_at hC ?_ ?_ ?_); (· omega); (· first | decide | omega); rintro k1 hk1; try simp -implicitDefEqProofs only [go_sem, z1, z2, z3, z4, z5, z6, z7, z8, z9, za, zb, zc, ↓reduceIte, *]) | ((with_reducible refine at_reader (l71Rec_c l _ hC (by omega)) (fun _ _ => rfl) ?_); rintro ⟨x, p2⟩ ⟨h1, h2⟩; simp only at *; try simp -implicitDefEqProofs only [go_sem, z1, z2, z3, z4, z5, z6, z7, z8, z9, za, zb, zc, ↓reduceIte, *])))
  all_goals try (refine fin_log (lg := c.log) rfl ?_ ?_ rfl ?_ ?_ <;> omega)
  · refine fin_log (lg := c.log ++ [x]) rfl ?_ ?_ rfl ?_ ?_ <;> first | omega | (simp <;> omega)
  rename_i k0 hk0
  have hk0' : 0 ≤ k0 ∧ k0 < c.log.length := hk0
  refine ⟨by omega, by omega, ?_⟩
  refine fin_log rfl ?_ ?_ rfl ?_ ?_ <;> first | omega | (simp <;> omega)
theorem l6Open_fn (l : List Int) (hl : l.length < 4611686018427387904) (hb : Byt l) : Fn Tryz.prog 71 [bts l] (fun r S => ∃ l', Cod l' ∧ r = .ref 0 2 0 0 ∧ S = [oR l' 0]) := by
  refine fn_of Tryz.func71 rfl rfl ?_
  simp -implicitDefEqProofs only [go_sem, z1, z2, z3, z4, z5, z6, z7, z8, z9, za, zb, zc, ↓reduceIte, Tryz.f71]
  (repeat' (first | ((with_reducible first | refine gon ?_ ?_ | refine gos ?_ ?_ | refine cdn ?_ ?_ | refine cds ?_ ?_ | refine gpn ?_ ?_ | refine gps ?_ ?_) <;> intro h <;> (try simp only [dt, df, gi, gt] at h) <;> try simp -implicitDefEqProofs only [go_sem, z1, z2, z3, z4, z5, z6, z7, z8, z9, za, zb, zc, ↓reduceIte, *]) | ((with_reducible refine And.intro ?_ ?_); (· first | omega | (simp only [List.length_take]; omega)); try simp -implicitDefEqProofs only [go_sem, z1, z2, z3, z4, z5, z6, z7, z8, z9, za, zb, zc, ↓reduceIte, *]) | fail))
  · exact fin_same ⟨⟨l.take 2000, ⟨fun k hk => by rw [at_take l 2000 (by simp at hk; omega)]; exact hb k (by simp at hk; omega), by simp; omega⟩, rfl, rfl⟩, rfl⟩
  · exact fin_same ⟨⟨l, ⟨hb, by omega⟩, rfl, rfl⟩, rfl⟩
end Go.Proofs.YtihplpffmdeldaaGreat.Am
end
section
set_option linter.unusedVariables false
set_option linter.unusedSimpArgs false
set_option maxRecDepth 100000
set_option maxHeartbeats 8000000
namespace Go.Proofs.YtihplpffmdeldaaGreat.Am
open Go Go.RowKit Go.Proofs
open Nat renaming reduceAdd → z1, reduceSub → z2, reduceMul → z3, reduceLT → z4, reduceLeDiff → z5, reduceEqDiff → z6
open Int renaming reduceBEq → z7, reduceBNe → z8, reduceNeg → z9, reduceSub → za, reduceLE → zb, reduceLT → zc
attribute [local congr] opsP_congr codeP_congr AWP_congr afterR_congr preP_congr afterPre_congr gPre_congr gOps_congr condP_congr stepE_congr
attribute [local go_sem] ty_int ty_bool ty_str ty_u8 ty_ints ty_bytes ty_page ty_pages ty_lpage ty_lpages ty_rec ty_recs ty_lrec ty_lrecs ty_eng ty_leng
attribute [local go_sem] true_and and_true beq_true' beq_false' toNat_cast Int.natCast_nonneg Bool.not_not Bool.not_true Bool.not_false decide_true decide_false Bool.or_false Bool.false_or Bool.or_true Bool.true_or Bool.and_false Bool.false_and Nat.zero_add Int.toNat_of_nonneg wrap_succ wrap_m1 wrap_nat succ_m1 cast0 succ_pos' succ_ne' succ_bne' ge_iff_le gt_iff_lt if_true if_false
attribute [local go_sem] slt_r slt_I slt_p ty_rd ty_ev ty_evs
@[go_sem] theorem rho0 {n i : Nat} : rho [] n i = n + i := by simp [rho]
theorem at_readerI {i : Nat} {f : FuncId} {l : List Int} {p : Nat} {X : Type} {J : X → Prop} {R : X → AV} {pos : X → Nat} {d : Tmp} {tm : List AV} {T : Store} {mv : List Nat} {K : St → Prop} (hi : T[i]? = some (oR l p)) (h : AFnX Tryz.prog f [.ref 0 2 0 0] [oR l p] J R (fun q => [oR l (pos q)]) [])
    (hR : ∀ q ρ, (R q).rn ρ = R q) (hk : ∀ q, J q → K ⟨tm.set d (R q), T.set i (oR l (pos q)), mv⟩) : afterR Tryz.prog (.enter f [.ref i 2 0 0]) (some d) ⟨tm, T, mv⟩ K := by
  refine enter_at [i] (M2 := []) h (by simp) (.cons _ _ _ _ _ hi rfl (a2_1 rfl) .nil) (.cons _ _ _ _ (rnT_ref rfl) .nil) rfl fun q hq => ?_
  have := hk q hq
  rw [hR]
  simpa only [scT_nil, scS_nil, putS_cons, putS_nil, rnO_agg, rn0_sl, rn0_prim, List.map_cons, List.map_nil, List.nil_append] using this
theorem pick_atI {i : Nat} {l : List Int} {p : Nat} {n : Int} {d : Tmp} {tm : List AV} {T : Store} {mv : List Nat} {K : St → Prop} (h : Cod l) (hi : T[i]? = some (oR l p)) (hp : p < 1000000) (hn : 1 ≤ n) (hk : ∀ k, PickJ n k → K ⟨tm.set d (I k), T.set i (oR l (p + 1)), mv⟩) :
    afterR Tryz.prog (.enter 95 [.ref i 2 0 0, I n]) (some d) ⟨tm, T, mv⟩ K := by
  refine enter_at [i] (M2 := []) (pick_c' h hp hn) (by simp) (.cons _ _ _ _ _ hi rfl (a2_1 rfl) .nil) (.cons _ _ _ _ (rnT_ref rfl) (.cons _ _ _ _ rnT_prim .nil)) rfl fun k hk' => ?_
  have := hk k hk'
  simpa only [scT_nil, scS_nil, putS_cons, putS_nil, rn_prim, rnO_agg, rn0_sl, rn0_prim, List.map_cons, List.map_nil, List.nil_append] using this
/-- What a drawn engine is like. -/
structure Eng.dr (e : Eng) : Prop where
  disk : e.disk.length = 5
  mem : e.mem.length = 5
  log : e.log.length ≤ 152
  dv : ∀ p ∈ e.disk, p.vals.length ≤ 3
  mv : ∀ p ∈ e.mem, p.vals.length ≤ 3
theorem rgs_vals {ps : List Pg} (h : Rgs ps) : ∀ p ∈ ps, p.vals.length ≤ 3 := fun p hp => by
  obtain ⟨k, hk, rfl⟩ := mem_at hp
  have := (h.rg k (by rw [h.len] at hk; exact hk)).len
  omega
theorem dr_of {e : Eng} (h : Inv e) : e.dr := ⟨h.disk.len, h.mem.len, by have := h.len; omega, rgs_vals h.disk, rgs_vals h.mem⟩
theorem rd_pgs {K : List Nat} {S : Store} {n0 i : Nat} {ps : List Pg} (hi : n0 ≤ i) (hK : i ∉ K) (ho : getO S i = some ⟨3, ps.map pA⟩) (hl : ps.length = 5) : Rd0 K S n0 (.own i 3 0 5) (pgs ps) :=
  .drop i 3 0 5 _ _ hi hK ho rfl (by simp [hl]) (by have := isDs_p ps; simpa [List.take_of_length_le, hl] using this)
theorem rd_recs {K : List Nat} {S : Store} {n0 i n : Nat} {l : List Rc} (hi : n0 ≤ i) (hK : i ∉ K) (ho : getO S i = some ⟨8, l.map rA⟩) (hl : n = l.length) : Rd0 K S n0 (.own i 8 0 n) (recs l) := dropR hi hK ho hl
theorem fin_eng {l : List Int} {T : Store} {p p' : Nat} {a b : List Pg} {c : List Rc} {s : Int} {d : Bool} {x : AV} (h2 : getO (oR l p' :: T) 2 = some ⟨3, a.map pA⟩) (h3 : getO (oR l p' :: T) 3 = some ⟨3, b.map pA⟩) (hx : Rd0 [0] (oR l p' :: T) 1 x (recs c)) (hd : (⟨a, b, c, s, d⟩ : Eng).dr) (q1 : p ≤ p') (q2 : p' ≤ p + 1800) :
    Fin 1 (.agg [.own 2 3 0 5, .own 3 3 0 5, x, I s, Bo d]) (oR l p' :: T) [] (fun r S' mv => ∃ y : Eng × Nat, (y.1.dr ∧ p ≤ y.2 ∧ y.2 ≤ p + 1800) ∧ r = eA y.1 ∧ S' = [oR l y.2] ∧ mv = []) :=
  fin_drop [0] [] (by simp) rfl (by decide) (keep1 (ob := ⟨2, [.agg [bts l, I (p' : Int)]]⟩) rfl (a2_1 rfl)) (hdR (o := ⟨2, [.agg [bts l, I (p' : Int)]]⟩) rfl (by simp) rfl rfl)
    (.of _ _ (.agg _ _ (.cons _ _ _ _ (rd_pgs (by decide) (by decide) h2 hd.disk) (.cons _ _ _ _ (rd_pgs (by decide) (by decide) h3 hd.mem) (.cons _ _ _ _ hx (.cons _ _ _ _ (.rn _ _ (.same _ rfl)) (.cons _ _ _ _ (.rn _ _ (.same _ rfl)) .nil))))))) ⟨(⟨a, b, c, s, d⟩, p'), ⟨hd, q1, q2⟩, rfl, rfl, rfl⟩
theorem dr_mem {a b : List Pg} {c : List Rc} {s s' : Int} {d d' : Bool} (h : (⟨a, b, c, s, d⟩ : Eng).dr) (k : Nat) {q : Pg} (hq : q.vals.length ≤ 3) : (⟨a, b.set k q, c, s', d'⟩ : Eng).dr :=
  ⟨h.disk, by have := h.mem; simpa using this, h.log, h.dv, fun p hp => by
    rcases List.mem_or_eq_of_mem_set hp with h1 | rfl
    · exact h.mv p h1
    · exact hq⟩
theorem dr_disk {a b : List Pg} {c : List Rc} {s s' : Int} {d d' : Bool} (h : (⟨a, b, c, s, d⟩ : Eng).dr) (k : Nat) {q : Pg} (hq : q.vals.length ≤ 3) : (⟨a.set k q, b, c, s', d'⟩ : Eng).dr :=
  ⟨by have := h.disk; simpa using this, h.mem, h.log, fun p hp => by
    rcases List.mem_or_eq_of_mem_set hp with h1 | rfl
    · exact h.dv p h1
    · exact hq, h.mv⟩
theorem dr_log {a b : List Pg} {c c' : List Rc} {s s' : Int} {d d' : Bool} (h : (⟨a, b, c, s, d⟩ : Eng).dr) (hc : c'.length ≤ 152) : (⟨a, b, c', s', d'⟩ : Eng).dr := ⟨h.disk, h.mem, hc, h.dv, h.mv⟩
theorem l72Engine_c (l : List Int) (p : Nat) (hC : Cod l) (hp : p < 600000) : AFnX Tryz.prog 70 [.ref 0 2 0 0] [oR l p] (fun q : Eng × Nat => q.1.dr ∧ p ≤ q.2 ∧ q.2 ≤ p + 1800) (fun q => eA q.1) (fun q => [oR l q.2]) [] := by
  refine afnx_of Tryz.func70 rfl rfl ?_
  simp -implicitDefEqProofs only [go_sem, z1, z2, z3, z4, z5, z6, z7, z8, z9, za, zb, zc, ↓reduceIte, Tryz.f70]
  (repeat' (first | ((with_reducible first | refine gon ?_ ?_ | refine gos ?_ ?_ | refine cdn ?_ ?_ | refine cds ?_ ?_ | refine gpn ?_ ?_ | refine gps ?_ ?_) <;> intro h <;> (try simp only [dt, df, gi, gt] at h) <;> try simp -implicitDefEqProofs only [go_sem, z1, z2, z3, z4, z5, z6, z7, z8, z9, za, zb, zc, ↓reduceIte, *]) | ((with_reducible refine And.intro ?_ ?_); (· first | omega | (simp only [List.length_take]; omega)); try simp -implicitDefEqProofs only [go_sem, z1, z2, z3, z4, z5, z6, z7, z8, z9, za, zb, zc, ↓reduceIte, *]) | ((with_reducible refine enter_at [0] (M2 := []) (l71Play_c l p hC (by omega)) (by decide) ?_ ?_ rfl ?_); (· repeat (first | exact Keeps.nil | (refine Keeps.cons _ _ _ _ _ rfl rfl ?_ ?_; (· first | exact a2_p _ _ | exact a2_1 rfl | exact a2_I _ _)))); (· repeat (first | exact All2.nil | (refine All2.cons _ _ _ _ ?_ ?_; (· first | exact rnT_eX rfl rfl | exact rnT_prim | exact rnT_sl | exact rnT_ref rfl | exact rnT_agg rfl | exact rnT_own rfl | exact rnT_eX5 rfl rfl)))); rintro ⟨⟨ca, cb, cc, cs, cd⟩, p1⟩ ⟨hic, hp1, hp2⟩; try simp -implicitDefEqProofs only [go_sem, z1, z2, z3, z4, z5, z6, z7, z8, z9, za, zb, zc, ↓reduceIte, *])))
  simp only at hic hp1 hp2
  have hcl : cc.length ≤ 150 := hic.toInv.len
  have hdr := dr_of hic.toInv
  have ha5 : ca.length = 5 := hdr.disk
  have hb5 : cb.length = 5 := hdr.mem
  have hwr : IntKind.i64.wrap ((cc.length : Int) + 2) = (cc.length : Int) + 2 := wrap_ok (by omega) (by omega)
  (repeat' (first | ((with_reducible first | refine gon ?_ ?_ | refine gos ?_ ?_ | refine cdn ?_ ?_ | refine cds ?_ ?_ | refine gpn ?_ ?_ | refine gps ?_ ?_) <;> intro h <;> (try simp only [dt, df, gi, gt] at h) <;> try simp -implicitDefEqProofs only [go_sem, z1, z2, z3, z4, z5, z6, z7, z8, z9, za, zb, zc, ↓reduceIte, *]) | ((with_reducible refine And.intro ?_ ?_); (· first | omega | (simp only [List.length_take]; omega)); try simp -implicitDefEqProofs only [go_sem, z1, z2, z3, z4, z5, z6, z7, z8, z9, za, zb, zc, ↓reduceIte, *]) | first | ((with_reducible refine pick_at hC ?_ ?_ ?_); (· omega); (· first | decide | omega); rintro k1 hk1; try simp -implicitDefEqProofs only [go_sem, z1, z2, z3, z4, z5, z6, z7, z8, z9, za, zb, zc, ↓reduceIte, *]) | ((with_reducible refine at_reader (l71Log_c l _ hC (by omega)) (fun _ _ => rfl) ?_); rintro ⟨x, p2⟩ ⟨h0, h1, h2⟩; simp only at *; try simp -implicitDefEqProofs only [go_sem, z1, z2, z3, z4, z5, z6, z7, z8, z9, za, zb, zc, ↓reduceIte, *])))
  all_goals try (refine fin_eng rfl rfl (rd_recs (by decide) (by decide) rfl rfl) (dr_log hdr (by omega)) ?_ ?_ <;> omega)
  · refine cp_drawG (id := 6) 8 (fun S => getO S 5 = some ⟨5, [eL 2 3 4 ⟨ca, cb, cc, cs, cd⟩]⟩) mixed rfl ?_
    ((refine expG_get 0 (.ref 5 5 0 1) rfl ?_ ?_ ?_ ?_ ?_); (· decide +kernel); (· decide +kernel); (· rfl); (· (intro S hS0; simp -implicitDefEqProofs only [go_sem, z1, z2, z3, z4, z5, z6, z7, z8, z9, za, zb, zc, ↓reduceIte, hS0, *])); try simp -implicitDefEqProofs only [go_sem, z1, z2, z3, z4, z5, z6, z7, z8, z9, za, zb, zc, ↓reduceIte, List.set_cons_succ, List.set_cons_zero])
    ((refine expG_get 1 (.own 3 3 0 5) rfl ?_ ?_ ?_ ?_ ?_); (· decide +kernel); (· decide +kernel); (· rfl); (· (intro S hS0; simp -implicitDefEqProofs only [go_sem, z1, z2, z3, z4, z5, z6, z7, z8, z9, za, zb, zc, ↓reduceIte, hS0, *])); try simp -implicitDefEqProofs only [go_sem, z1, z2, z3, z4, z5, z6, z7, z8, z9, za, zb, zc, ↓reduceIte, List.set_cons_succ, List.set_cons_zero])
    ((refine expG_get 2 (.ref 0 2 0 0) rfl ?_ ?_ ?_ ?_ ?_); (· decide +kernel); (· decide +kernel); (· rfl); (· (intro S hS0; simp -implicitDefEqProofs only [go_sem, z1, z2, z3, z4, z5, z6, z7, z8, z9, za, zb, zc, ↓reduceIte, hS0, *])); try simp -implicitDefEqProofs only [go_sem, z1, z2, z3, z4, z5, z6, z7, z8, z9, za, zb, zc, ↓reduceIte, List.set_cons_succ, List.set_cons_zero])
    ((refine expG_get 4 (.ref 0 2 0 0) rfl ?_ ?_ ?_ ?_ ?_); (· decide +kernel); (· decide +kernel); (· rfl); (· (intro S hS0; simp -implicitDefEqProofs only [go_sem, z1, z2, z3, z4, z5, z6, z7, z8, z9, za, zb, zc, ↓reduceIte, hS0, *])); try simp -implicitDefEqProofs only [go_sem, z1, z2, z3, z4, z5, z6, z7, z8, z9, za, zb, zc, ↓reduceIte, List.set_cons_succ, List.set_cons_zero])
    ((with_reducible refine expG_one 3 ?_ ?_); (· decide +kernel); try simp -implicitDefEqProofs only [go_sem, z1, z2, z3, z4, z5, z6, z7, z8, z9, za, zb, zc, ↓reduceIte, *])
    ((with_reducible refine pick_at hC ?_ ?_ ?_); (· omega); (· first | decide | omega); rintro k2 hk2; try simp -implicitDefEqProofs only [go_sem, z1, z2, z3, z4, z5, z6, z7, z8, z9, za, zb, zc, ↓reduceIte, *])
    have hk2' : 0 ≤ k2 ∧ k2 < 5 := hk2
    ((with_reducible refine expG_one 5 ?_ ?_); (· decide +kernel); try simp -implicitDefEqProofs only [go_sem, z1, z2, z3, z4, z5, z6, z7, z8, z9, za, zb, zc, ↓reduceIte, *])
    ((with_reducible refine at_reader (l71Page_c l _ hC (by omega)) (fun _ _ => rfl) ?_); rintro ⟨x, p2⟩ ⟨h0, h1, h2⟩; simp only at *; try simp -implicitDefEqProofs only [go_sem, z1, z2, z3, z4, z5, z6, z7, z8, z9, za, zb, zc, ↓reduceIte, *])
    (repeat' (first | ((with_reducible first | refine gon ?_ ?_ | refine gos ?_ ?_ | refine cdn ?_ ?_ | refine cds ?_ ?_ | refine gpn ?_ ?_ | refine gps ?_ ?_) <;> intro h <;> (try simp only [dt, df, gi, gt] at h) <;> try simp -implicitDefEqProofs only [go_sem, z1, z2, z3, z4, z5, z6, z7, z8, z9, za, zb, zc, ↓reduceIte, *]) | ((with_reducible refine And.intro ?_ ?_); (· first | omega | (simp only [List.length_take]; omega)); try simp -implicitDefEqProofs only [go_sem, z1, z2, z3, z4, z5, z6, z7, z8, z9, za, zb, zc, ↓reduceIte, *]) | first | ((with_reducible refine expG_one 6 ?_ ?_); (· decide +kernel); try simp -implicitDefEqProofs only [go_sem, z1, z2, z3, z4, z5, z6, z7, z8, z9, za, zb, zc, ↓reduceIte, *]) | ((with_reducible refine expG_one 7 ?_ ?_); (· decide +kernel); try simp -implicitDefEqProofs only [go_sem, z1, z2, z3, z4, z5, z6, z7, z8, z9, za, zb, zc, ↓reduceIte, *]) | ((with_reducible refine expG_end ?_ ?_); (· decide +kernel); try simp -implicitDefEqProofs only [go_sem, z1, z2, z3, z4, z5, z6, z7, z8, z9, za, zb, zc, ↓reduceIte, *])))
    refine fin_eng rfl rfl (rd_recs (by decide) (by decide) rfl rfl) (dr_mem hdr _ h0) ?_ ?_ <;> omega
  · refine cp_drawG (id := 8) 8 (fun S => getO S 5 = some ⟨5, [eL 2 3 4 ⟨ca, cb, cc, cs, cd⟩]⟩) mixed rfl ?_
    ((refine expG_get 0 (.ref 5 5 0 0) rfl ?_ ?_ ?_ ?_ ?_); (· decide +kernel); (· decide +kernel); (· rfl); (· (intro S hS0; simp -implicitDefEqProofs only [go_sem, z1, z2, z3, z4, z5, z6, z7, z8, z9, za, zb, zc, ↓reduceIte, hS0, *])); try simp -implicitDefEqProofs only [go_sem, z1, z2, z3, z4, z5, z6, z7, z8, z9, za, zb, zc, ↓reduceIte, List.set_cons_succ, List.set_cons_zero])
    ((refine expG_get 1 (.own 2 3 0 5) rfl ?_ ?_ ?_ ?_ ?_); (· decide +kernel); (· decide +kernel); (· rfl); (· (intro S hS0; simp -implicitDefEqProofs only [go_sem, z1, z2, z3, z4, z5, z6, z7, z8, z9, za, zb, zc, ↓reduceIte, hS0, *])); try simp -implicitDefEqProofs only [go_sem, z1, z2, z3, z4, z5, z6, z7, z8, z9, za, zb, zc, ↓reduceIte, List.set_cons_succ, List.set_cons_zero])
    ((refine expG_get 2 (.ref 0 2 0 0) rfl ?_ ?_ ?_ ?_ ?_); (· decide +kernel); (· decide +kernel); (· rfl); (· (intro S hS0; simp -implicitDefEqProofs only [go_sem, z1, z2, z3, z4, z5, z6, z7, z8, z9, za, zb, zc, ↓reduceIte, hS0, *])); try simp -implicitDefEqProofs only [go_sem, z1, z2, z3, z4, z5, z6, z7, z8, z9, za, zb, zc, ↓reduceIte, List.set_cons_succ, List.set_cons_zero])
    ((refine expG_get 4 (.ref 0 2 0 0) rfl ?_ ?_ ?_ ?_ ?_); (· decide +kernel); (· decide +kernel); (· rfl); (· (intro S hS0; simp -implicitDefEqProofs only [go_sem, z1, z2, z3, z4, z5, z6, z7, z8, z9, za, zb, zc, ↓reduceIte, hS0, *])); try simp -implicitDefEqProofs only [go_sem, z1, z2, z3, z4, z5, z6, z7, z8, z9, za, zb, zc, ↓reduceIte, List.set_cons_succ, List.set_cons_zero])
    ((with_reducible refine expG_one 3 ?_ ?_); (· decide +kernel); try simp -implicitDefEqProofs only [go_sem, z1, z2, z3, z4, z5, z6, z7, z8, z9, za, zb, zc, ↓reduceIte, *])
    ((with_reducible refine pick_at hC ?_ ?_ ?_); (· omega); (· first | decide | omega); rintro k2 hk2; try simp -implicitDefEqProofs only [go_sem, z1, z2, z3, z4, z5, z6, z7, z8, z9, za, zb, zc, ↓reduceIte, *])
    have hk2' : 0 ≤ k2 ∧ k2 < 5 := hk2
    ((with_reducible refine expG_one 5 ?_ ?_); (· decide +kernel); try simp -implicitDefEqProofs only [go_sem, z1, z2, z3, z4, z5, z6, z7, z8, z9, za, zb, zc, ↓reduceIte, *])
    ((with_reducible refine at_reader (l71Page_c l _ hC (by omega)) (fun _ _ => rfl) ?_); rintro ⟨x, p2⟩ ⟨h0, h1, h2⟩; simp only at *; try simp -implicitDefEqProofs only [go_sem, z1, z2, z3, z4, z5, z6, z7, z8, z9, za, zb, zc, ↓reduceIte, *])
    (repeat' (first | ((with_reducible first | refine gon ?_ ?_ | refine gos ?_ ?_ | refine cdn ?_ ?_ | refine cds ?_ ?_ | refine gpn ?_ ?_ | refine gps ?_ ?_) <;> intro h <;> (try simp only [dt, df, gi, gt] at h) <;> try simp -implicitDefEqProofs only [go_sem, z1, z2, z3, z4, z5, z6, z7, z8, z9, za, zb, zc, ↓reduceIte, *]) | ((with_reducible refine And.intro ?_ ?_); (· first | omega | (simp only [List.length_take]; omega)); try simp -implicitDefEqProofs only [go_sem, z1, z2, z3, z4, z5, z6, z7, z8, z9, za, zb, zc, ↓reduceIte, *]) | first | ((with_reducible refine expG_one 6 ?_ ?_); (· decide +kernel); try simp -implicitDefEqProofs only [go_sem, z1, z2, z3, z4, z5, z6, z7, z8, z9, za, zb, zc, ↓reduceIte, *]) | ((with_reducible refine expG_one 7 ?_ ?_); (· decide +kernel); try simp -implicitDefEqProofs only [go_sem, z1, z2, z3, z4, z5, z6, z7, z8, z9, za, zb, zc, ↓reduceIte, *]) | ((with_reducible refine expG_end ?_ ?_); (· decide +kernel); try simp -implicitDefEqProofs only [go_sem, z1, z2, z3, z4, z5, z6, z7, z8, z9, za, zb, zc, ↓reduceIte, *])))
    refine fin_eng rfl rfl (rd_recs (by decide) (by decide) rfl rfl) (dr_disk hdr _ h0) ?_ ?_ <;> omega
  all_goals (refine fin_eng rfl rfl (.rn _ _ (.same _ rfl)) (dr_log hdr (by omega)) ?_ ?_ <;> omega)
theorem l6Open_c (l : List Int) (hl : l.length < 4611686018427387904) (hb : Byt l) : AFnX Tryz.prog 71 [bts l] [] (fun l' : List Int => Cod l') (fun _ => .ref 0 2 0 0) (fun l' => [oR l' 0]) [] :=
  AFn.mono (l6Open_fn l hl hb) fun r S' mv ⟨⟨l', h1, h2, h3⟩, h4⟩ => ⟨l', h1, h2, h3, h4⟩
/-- What a drawing hands back: no object. -/
abbrev FnX (f : FuncId) (args : List AV) {X : Type} (J : X → Prop) (R : X → AV) : Prop := AFnX Tryz.prog f args [] J R (fun _ => []) []
theorem fin_drawn {r r' : AV} {S : Store} {mv : List Nat} {Q : AV → Store → List Nat → Prop} (hr : RdT [] S 0 r r') (h : Q r' [] []) : Fin 0 r S mv Q :=
  fin_drop [] [] (by simp) rfl (by decide) (fun j i h => by cases h) (fun i hi => absurd hi (Nat.not_lt_zero _)) hr h
end Go.Proofs.YtihplpffmdeldaaGreat.Am
end
section
set_option linter.unusedVariables false
set_option linter.unusedSimpArgs false
set_option maxRecDepth 100000
set_option maxHeartbeats 8000000
namespace Go.Proofs.YtihplpffmdeldaaGreat.Am
open Go Go.RowKit Go.Proofs
open Nat renaming reduceAdd → z1, reduceSub → z2, reduceMul → z3, reduceLT → z4, reduceLeDiff → z5, reduceEqDiff → z6
open Int renaming reduceBEq → z7, reduceBNe → z8, reduceNeg → z9, reduceSub → za, reduceLE → zb, reduceLT → zc
attribute [local congr] opsP_congr codeP_congr AWP_congr afterR_congr preP_congr afterPre_congr gPre_congr gOps_congr condP_congr stepE_congr
attribute [local go_sem] ty_int ty_bool ty_str ty_u8 ty_ints ty_bytes ty_page ty_pages ty_lpage ty_lpages ty_rec ty_recs ty_lrec ty_lrecs ty_eng ty_leng
attribute [local go_sem] true_and and_true beq_true' beq_false' toNat_cast Int.natCast_nonneg Bool.not_not Bool.not_true Bool.not_false decide_true decide_false Bool.or_false Bool.false_or Bool.or_true Bool.true_or Bool.and_false Bool.false_and Nat.zero_add Int.toNat_of_nonneg wrap_succ wrap_m1 wrap_nat succ_m1 cast0 succ_pos' succ_ne' succ_bne' ge_iff_le gt_iff_lt if_true if_false
attribute [local go_sem] slt_r slt_I slt_p ty_rd ty_ev ty_evs
theorem dr_small {e : Eng} (h : e.dr) : e.small := ⟨by have := h.disk; omega, by have := h.mem; omega, by have := h.log; omega, fun p hp => by have := h.dv p hp; omega, fun p hp => by have := h.mv p hp; omega⟩
theorem okI (e : Eng) (h : e.small) : Fn1 Tryz.prog 28 [eA e] (Bo (okE e)) := EngineOkI_fn lastC lastOfC recC (pagesC lastC) e h.disk h.mem h.log h.dv h.mv
theorem okS (e : Eng) (h : e.small) : Fn1 Tryz.prog 29 [eA e] (Bo (okE e)) := EngineOkS_fn e h.disk h.mem h.log
end Go.Proofs.YtihplpffmdeldaaGreat.Am
end
section
set_option linter.unusedVariables false
set_option linter.unusedSimpArgs false
set_option maxRecDepth 100000
namespace Go.Proofs.YtihplpffmdeldaaGreat.Am
open Go Go.RowKit Go.Proofs Go.ChangeShapes Go.WideShapes
section
variable {H : Type} {enc : TypeId × Value → H} {w : World} {μ : Nat → Nat}
theorem opens_u8 : Opens enc w μ 5 1 bD (fun n => 0 ≤ n ∧ n < 256) := by
  intro fuel cs d ps h
  cases fuel with
  | zero => simp [DataW.trod] at h
  | succ fuel =>
    unfold DataW.trod at h
    rw [Tryz.underlying5] at h
    rcases cs with _ | ⟨v, _ | ⟨u, cs⟩⟩
    · simp at h
    · cases v <;> simp only [reduceCtorEq] at h
      rename_i k n
      split at h
      · rename_i hk
        obtain ⟨rfl, hwf⟩ := hk
        refine ⟨n, rfl, ?_, fun _ => ?_⟩
        · rintro (_ | j) y hy
          · simp [bD_cells] at hy; subst hy; exact ⟨_, rfl, .prim _ rfl⟩
          · simp [bD_cells] at hy
        · have h1 : IntKind.u8.min = 0 := rfl
          have h2 : IntKind.u8.max = 255 := rfl
          simp only [Lit.wf, Bool.and_eq_true, decide_eq_true_eq] at hwf
          omega
      · cases h
    · simp at h
theorem opens_bytes : Opens enc w μ 42 1 (fun l : List Int => .sl 1 (l.map bD)) (fun l => l.length < 4611686018427387904 ∧ ∀ a ∈ l, 0 ≤ a ∧ a < 256) :=
  opens_sl opens_u8 Tryz.underlying42 (by kernel_rfl) (by decide) (Nat.le_trans (by decide) (Nat.le_of_eq (by kernel_rfl : (1 : Nat) = _))) (fun a => ⟨rfl, by simp [bD_cells]; rfl⟩)
/-- A code that is an argument. -/
theorem open_bytes {r : Reach} {b0 : Nat} {v : Value} {d : DataW H} {ps : List MemPlace} (hval : Value.okWide Tryz.prog w r b0 42 v) (hd : DataW.Trod enc Tryz.prog w 0 (fun _ => true) true 42 v d ps)
    (hw : (d.weights Tryz.prog 42).all (· ≤ reachBytes) = true) : ∃ l : List Int, l.length < 4611686018427387904 ∧ Byt l ∧ Rep okT w (fun i => i) [] (bts l) v := by
  obtain ⟨a, len, cap, rfl⟩ := okWide_slice Tryz.underlying42 hval
  obtain ⟨fuel, hf⟩ := hd
  obtain ⟨l, hl, hr, hq⟩ := opens_bytes (μ := fun i => i) _ _ _ _ hf
  obtain ⟨q1, q2⟩ := hq hw
  refine ⟨l, q1, fun k hk => q2 _ (at_mem l k hk), ?_⟩
  obtain ⟨u, hu, hR⟩ := hr 0 _ rfl
  simp [Value.cells] at hu
  subst hu
  exact .sl _ _ _ hR
end
end Go.Proofs.YtihplpffmdeldaaGreat.Am
end
section
set_option linter.unusedVariables false
set_option linter.unusedSimpArgs false
set_option maxRecDepth 100000
set_option maxHeartbeats 8000000
namespace Go.Proofs.YtihplpffmdeldaaGreat.Am
open Go Go.RowKit Go.Proofs
open Nat renaming reduceAdd → z1, reduceSub → z2, reduceMul → z3, reduceLT → z4, reduceLeDiff → z5, reduceEqDiff → z6
open Int renaming reduceBEq → z7, reduceBNe → z8, reduceNeg → z9, reduceSub → za, reduceLE → zb, reduceLT → zc
attribute [local congr] opsP_congr codeP_congr AWP_congr afterR_congr preP_congr afterPre_congr gPre_congr gOps_congr condP_congr stepE_congr
attribute [local go_sem] ty_int ty_bool ty_str ty_u8 ty_ints ty_bytes ty_page ty_pages ty_lpage ty_lpages ty_rec ty_recs ty_lrec ty_lrecs ty_eng ty_leng
attribute [local go_sem] true_and and_true beq_true' beq_false' toNat_cast Int.natCast_nonneg Bool.not_not Bool.not_true Bool.not_false decide_true decide_false Bool.or_false Bool.false_or Bool.or_true Bool.true_or Bool.and_false Bool.false_and Nat.zero_add Int.toNat_of_nonneg wrap_succ wrap_m1 wrap_nat succ_m1 cast0 succ_pos' succ_ne' succ_bne' ge_iff_le gt_iff_lt if_true if_false
attribute [local go_sem] slt_r slt_I slt_p
theorem ltInts_fn (a b : List Int) (hb : a.length < 4611686018427387904) : Fn1 Tryz.prog 109 [ints a, ints b] (Bo (sameInts a b)) := by
  refine fn1_of Tryz.func109 rfl rfl ?_
  simp -implicitDefEqProofs only [go_sem, z1, z2, z3, z4, z5, z6, z7, z8, z9, za, zb, zc, ↓reduceIte, Tryz.f109]
  (repeat' (first | ((with_reducible first | refine gon ?_ ?_ | refine gos ?_ ?_ | refine cdn ?_ ?_ | refine cds ?_ ?_ | refine gpn ?_ ?_ | refine gps ?_ ?_) <;> intro h <;> (try simp only [dt, df, gi, gt] at h) <;> try simp -implicitDefEqProofs only [go_sem, z1, z2, z3, z4, z5, z6, z7, z8, z9, za, zb, zc, ↓reduceIte, *]) | ((with_reducible refine And.intro ?_ ?_); (· first | omega | (simp only [List.length_take]; omega)); try simp -implicitDefEqProofs only [go_sem, z1, z2, z3, z4, z5, z6, z7, z8, z9, za, zb, zc, ↓reduceIte, *]) | fail))
  all_goals try ((with_reducible refine fin_pu ?_ ?_); (· (simp_all [sameInts]) <;> (first | omega | (rw [Bool.eq_iff_iff]; simp; done) | (rw [Bool.eq_iff_iff]; simp; omega) | (split <;> (first | rfl | omega | (simp_all; done))))); (· rfl))
  · have hl : a.length = b.length := by have := h; simp at this; omega
    refine cp_loop (fun i : Nat => ⟨(ints a :: ints b :: .any :: .any :: Bo false :: I (i : Int) :: .any :: .any :: .any :: .any :: .any :: .any :: .any :: .any :: .any :: .any :: .any :: .any :: .any :: .any :: .any :: .any :: .any :: .any :: .any :: .any :: []), [], []⟩) (fun i => i ≤ a.length ∧ allFrom (fun k => at' a (k : Int) == at' b (k : Int)) i a.length = sameInts a b) (fun i => a.length - i) 0 ?_ ?_ ?_
    · exact ⟨by omega, by simp [sameInts, hl]⟩
    · refine wk_tm ?_; repeat (first | exact WL.nil | (with_reducible refine WL.any _ _ _ ?_) | (with_reducible refine WL.same _ _ _ ?_) | (refine WL.eq _ _ _ _ rfl ?_))
    · rintro i ⟨hi, hg⟩
      have hbi : i < 4611686018427387904 := by omega
      simp -implicitDefEqProofs only [go_sem, z1, z2, z3, z4, z5, z6, z7, z8, z9, za, zb, zc, ↓reduceIte, true_and]
      (repeat' (first | ((with_reducible first | refine gon ?_ ?_ | refine gos ?_ ?_ | refine cdn ?_ ?_ | refine cds ?_ ?_ | refine gpn ?_ ?_ | refine gps ?_ ?_) <;> intro h <;> (try simp only [dt, df, gi, gt] at h) <;> try simp -implicitDefEqProofs only [go_sem, z1, z2, z3, z4, z5, z6, z7, z8, z9, za, zb, zc, ↓reduceIte, *]) | ((with_reducible refine And.intro ?_ ?_); (· first | omega | (simp only [List.length_take]; omega)); try simp -implicitDefEqProofs only [go_sem, z1, z2, z3, z4, z5, z6, z7, z8, z9, za, zb, zc, ↓reduceIte, *]) | ((with_reducible refine cp_draw (id := 6) 9 mixed ?_ ?_ ?_); (· decide +kernel); (· first | (simp only [List.all_cons, List.all_nil, List.length_cons, List.length_nil, Nat.reduceAdd, Nat.reduceLT, decide_true, Bool.and_true, Bool.and_self]; done) | rfl); try simp -implicitDefEqProofs only [go_sem, z1, z2, z3, z4, z5, z6, z7, z8, z9, za, zb, zc, ↓reduceIte, *])))
      all_goals first
        | ((with_reducible refine fin_pu ?_ ?_); (· (rw [← hg, allFrom_lt (by omega : i < a.length)]; clear hg; simp_all; done)); (· rfl))
        | ((with_reducible refine fin_pu ?_ ?_); (· (rw [← hg, allFrom_ge (by omega : ¬ i < a.length)]; done)); (· rfl))
        | ((with_reducible refine ⟨i + 1, ⟨by omega, ?_⟩, by omega, ?_⟩); (· (rw [← hg, allFrom_lt (by omega : i < a.length)]; clear hg; simp_all)); (· refine wk_tm ?_; repeat (first | exact WL.nil | (with_reducible refine WL.any _ _ _ ?_) | (with_reducible refine WL.same _ _ _ ?_) | (refine WL.eq _ _ _ _ rfl ?_))))
theorem ltPage_fn (p q : Pg) (hb : p.vals.length < 4611686018427387904) : Fn1 Tryz.prog 40 [pA p, pA q] (Bo (sameP p q)) := by
  refine fn1_of Tryz.func40 rfl rfl ?_
  simp -implicitDefEqProofs only [go_sem, z1, z2, z3, z4, z5, z6, z7, z8, z9, za, zb, zc, ↓reduceIte, Tryz.f40]
  (repeat' (first | ((with_reducible first | refine gon ?_ ?_ | refine gos ?_ ?_ | refine cdn ?_ ?_ | refine cds ?_ ?_ | refine gpn ?_ ?_ | refine gps ?_ ?_) <;> intro h <;> (try simp only [dt, df, gi, gt] at h) <;> try simp -implicitDefEqProofs only [go_sem, z1, z2, z3, z4, z5, z6, z7, z8, z9, za, zb, zc, ↓reduceIte, *]) | ((with_reducible refine And.intro ?_ ?_); (· first | omega | (simp only [List.length_take]; omega)); try simp -implicitDefEqProofs only [go_sem, z1, z2, z3, z4, z5, z6, z7, z8, z9, za, zb, zc, ↓reduceIte, *]) | ((with_reducible refine enter_pu (ltInts_fn p.vals q.vals hb) ?_ ?_ ?_); (· rfl); (· rfl); try simp -implicitDefEqProofs only [go_sem, z1, z2, z3, z4, z5, z6, z7, z8, z9, za, zb, zc, ↓reduceIte, *])))
  all_goals try ((with_reducible refine fin_pu ?_ ?_); (· (simp_all [sameP]) <;> (first | omega | (rw [Bool.eq_iff_iff]; simp; done) | (rw [Bool.eq_iff_iff]; simp; omega) | (split <;> (first | rfl | omega | (simp_all; done))))); (· rfl))
theorem ltPages_fn (a b : List Pg) (hb : a.length < 4611686018427387904) (hv : ∀ p ∈ a, p.vals.length < 4611686018427387904) : Fn1 Tryz.prog 52 [pgs a, pgs b] (Bo (samePs a b)) := by
  refine fn1_of Tryz.func52 rfl rfl ?_
  simp -implicitDefEqProofs only [go_sem, z1, z2, z3, z4, z5, z6, z7, z8, z9, za, zb, zc, ↓reduceIte, Tryz.f52]
  (repeat' (first | ((with_reducible first | refine gon ?_ ?_ | refine gos ?_ ?_ | refine cdn ?_ ?_ | refine cds ?_ ?_ | refine gpn ?_ ?_ | refine gps ?_ ?_) <;> intro h <;> (try simp only [dt, df, gi, gt] at h) <;> try simp -implicitDefEqProofs only [go_sem, z1, z2, z3, z4, z5, z6, z7, z8, z9, za, zb, zc, ↓reduceIte, *]) | ((with_reducible refine And.intro ?_ ?_); (· first | omega | (simp only [List.length_take]; omega)); try simp -implicitDefEqProofs only [go_sem, z1, z2, z3, z4, z5, z6, z7, z8, z9, za, zb, zc, ↓reduceIte, *]) | fail))
  all_goals try ((with_reducible refine fin_pu ?_ ?_); (· (simp_all [samePs]) <;> (first | omega | (rw [Bool.eq_iff_iff]; simp; done) | (rw [Bool.eq_iff_iff]; simp; omega) | (split <;> (first | rfl | omega | (simp_all; done))))); (· rfl))
  · have hl : a.length = b.length := by have := h; simp at this; omega
    refine cp_loop (fun i : Nat => ⟨(pgs a :: pgs b :: .any :: .any :: Bo false :: I (i : Int) :: .any :: .any :: .any :: .any :: .any :: .any :: .any :: .any :: .any :: .any :: .any :: .any :: .any :: .any :: .any :: .any :: .any :: .any :: .any :: .any :: .any :: []), [], []⟩) (fun i => i ≤ a.length ∧ allFrom (fun k => sameP (at' a (k : Int)) (at' b (k : Int))) i a.length = samePs a b) (fun i => a.length - i) 0 ?_ ?_ ?_
    · exact ⟨by omega, by simp [samePs, hl]⟩
    · refine wk_tm ?_; repeat (first | exact WL.nil | (with_reducible refine WL.any _ _ _ ?_) | (with_reducible refine WL.same _ _ _ ?_) | (refine WL.eq _ _ _ _ rfl ?_))
    · rintro i ⟨hi, hg⟩
      have hbi : i < 4611686018427387904 := by omega
      simp -implicitDefEqProofs only [go_sem, z1, z2, z3, z4, z5, z6, z7, z8, z9, za, zb, zc, ↓reduceIte, true_and]
      (repeat' (first | ((with_reducible first | refine gon ?_ ?_ | refine gos ?_ ?_ | refine cdn ?_ ?_ | refine cds ?_ ?_ | refine gpn ?_ ?_ | refine gps ?_ ?_) <;> intro h <;> (try simp only [dt, df, gi, gt] at h) <;> try simp -implicitDefEqProofs only [go_sem, z1, z2, z3, z4, z5, z6, z7, z8, z9, za, zb, zc, ↓reduceIte, *]) | ((with_reducible refine And.intro ?_ ?_); (· first | omega | (simp only [List.length_take]; omega)); try simp -implicitDefEqProofs only [go_sem, z1, z2, z3, z4, z5, z6, z7, z8, z9, za, zb, zc, ↓reduceIte, *]) | first | ((with_reducible refine cp_draw (id := 6) 10 mixed ?_ ?_ ?_); (· decide +kernel); (· first | (simp only [List.all_cons, List.all_nil, List.length_cons, List.length_nil, Nat.reduceAdd, Nat.reduceLT, decide_true, Bool.and_true, Bool.and_self]; done) | rfl); try simp -implicitDefEqProofs only [go_sem, z1, z2, z3, z4, z5, z6, z7, z8, z9, za, zb, zc, ↓reduceIte, *]) | ((with_reducible refine pre_enter _ (det_pu (ltPage_fn (at' a (i : Int)) (at' b (i : Int)) (hv _ (at_mem a i (by omega)))) ?_ ?_) ?_ ?_); (· rfl); (· rfl); (· rfl); try simp -implicitDefEqProofs only [go_sem, z1, z2, z3, z4, z5, z6, z7, z8, z9, za, zb, zc, ↓reduceIte, *])))
      all_goals first
        | ((with_reducible refine fin_pu ?_ ?_); (· (rw [← hg, allFrom_lt (by omega : i < a.length)]; clear hg; simp_all; done)); (· rfl))
        | ((with_reducible refine fin_pu ?_ ?_); (· (rw [← hg, allFrom_ge (by omega : ¬ i < a.length)]; done)); (· rfl))
        | ((with_reducible refine ⟨i + 1, ⟨by omega, ?_⟩, by omega, ?_⟩); (· (rw [← hg, allFrom_lt (by omega : i < a.length)]; clear hg; simp_all)); (· refine wk_tm ?_; repeat (first | exact WL.nil | (with_reducible refine WL.any _ _ _ ?_) | (with_reducible refine WL.same _ _ _ ?_) | (refine WL.eq _ _ _ _ rfl ?_))))
end Go.Proofs.YtihplpffmdeldaaGreat.Am
end
section
set_option linter.unusedVariables false
set_option linter.unusedSimpArgs false
set_option maxRecDepth 100000
set_option maxHeartbeats 8000000
namespace Go.Proofs.YtihplpffmdeldaaGreat.Am
open Go Go.RowKit Go.Proofs
open Nat renaming reduceAdd → z1, reduceSub → z2, reduceMul → z3, reduceLT → z4, reduceLeDiff → z5, reduceEqDiff → z6
open Int renaming reduceBEq → z7, reduceBNe → z8, reduceNeg → z9, reduceSub → za, reduceLE → zb, reduceLT → zc
attribute [local congr] opsP_congr codeP_congr AWP_congr afterR_congr preP_congr afterPre_congr gPre_congr gOps_congr condP_congr stepE_congr
attribute [local go_sem] ty_int ty_bool ty_str ty_u8 ty_ints ty_bytes ty_page ty_pages ty_lpage ty_lpages ty_rec ty_recs ty_lrec ty_lrecs ty_eng ty_leng
attribute [local go_sem] true_and and_true beq_true' beq_false' toNat_cast Int.natCast_nonneg Bool.not_not Bool.not_true Bool.not_false decide_true decide_false Bool.or_false Bool.false_or Bool.or_true Bool.true_or Bool.and_false Bool.false_and Nat.zero_add Int.toNat_of_nonneg wrap_succ wrap_m1 wrap_nat succ_m1 cast0 succ_pos' succ_ne' succ_bne' ge_iff_le gt_iff_lt if_true if_false
attribute [local go_sem] slt_r slt_I slt_p
end Go.Proofs.YtihplpffmdeldaaGreat.Am
end
section
set_option linter.unusedVariables false
set_option linter.unusedSimpArgs false
set_option maxRecDepth 100000
set_option maxHeartbeats 8000000
namespace Go.Proofs.YtihplpffmdeldaaGreat.Am
open Go Go.RowKit Go.Proofs
open Nat renaming reduceAdd → z1, reduceSub → z2, reduceMul → z3, reduceLT → z4, reduceLeDiff → z5, reduceEqDiff → z6
open Int renaming reduceBEq → z7, reduceBNe → z8, reduceNeg → z9, reduceSub → za, reduceLE → zb, reduceLT → zc
attribute [local congr] opsP_congr codeP_congr AWP_congr afterR_congr preP_congr afterPre_congr gPre_congr gOps_congr condP_congr stepE_congr
attribute [local go_sem] ty_int ty_bool ty_str ty_u8 ty_ints ty_bytes ty_page ty_pages ty_lpage ty_lpages ty_rec ty_recs ty_lrec ty_lrecs ty_eng ty_leng
attribute [local go_sem] true_and and_true beq_true' beq_false' toNat_cast Int.natCast_nonneg Bool.not_not Bool.not_true Bool.not_false decide_true decide_false Bool.or_false Bool.false_or Bool.or_true Bool.true_or Bool.and_false Bool.false_and Nat.zero_add Int.toNat_of_nonneg wrap_succ wrap_m1 wrap_nat succ_m1 cast0 succ_pos' succ_ne' succ_bne' ge_iff_le gt_iff_lt if_true if_false
attribute [local go_sem] slt_r slt_I slt_p ty_rd ty_ev ty_evs
theorem sameInts_iff {a b : List Int} : sameInts a b = true ↔ a = b := by
  unfold sameInts
  rw [Bool.and_eq_true, decide_eq_true_eq, allFrom_iff]
  constructor
  · rintro ⟨h1, h2⟩
    refine List.ext_getElem h1 fun i hi hj => ?_
    have := h2 i (Nat.zero_le _) hi
    simpa [at', List.getD, hi, hj] using this
  · rintro rfl
    exact ⟨rfl, fun k _ _ => by simp⟩
theorem sameP_iff {p q : Pg} : sameP p q = true ↔ p = q := by
  unfold sameP
  rw [Bool.and_eq_true, Bool.and_eq_true, sameInts_iff, beq_iff_eq, beq_iff_eq]
  obtain ⟨a, b, c⟩ := p
  obtain ⟨a', b', c'⟩ := q
  simp [and_assoc]
theorem samePs_iff {a b : List Pg} : samePs a b = true ↔ a = b := by
  unfold samePs
  rw [Bool.and_eq_true, decide_eq_true_eq, allFrom_iff]
  constructor
  · rintro ⟨h1, h2⟩
    refine List.ext_getElem h1 fun i hi hj => ?_
    have := sameP_iff.1 (h2 i (Nat.zero_le _) hi)
    simpa [at', List.getD, hi, hj] using this
  · rintro rfl
    exact ⟨rfl, fun k _ _ => sameP_refl _⟩
end Go.Proofs.YtihplpffmdeldaaGreat.Am
end
section
set_option linter.unusedVariables false
set_option linter.unusedSimpArgs false
set_option maxRecDepth 100000
set_option maxHeartbeats 8000000
namespace Go.Proofs.YtihplpffmdeldaaGreat.Am
open Go Go.RowKit Go.Proofs
open Nat renaming reduceAdd → z1, reduceSub → z2, reduceMul → z3, reduceLT → z4, reduceLeDiff → z5, reduceEqDiff → z6
open Int renaming reduceBEq → z7, reduceBNe → z8, reduceNeg → z9, reduceSub → za, reduceLE → zb, reduceLT → zc
attribute [local congr] opsP_congr codeP_congr AWP_congr afterR_congr preP_congr afterPre_congr gPre_congr gOps_congr condP_congr stepE_congr
attribute [local go_sem] ty_int ty_bool ty_str ty_u8 ty_ints ty_bytes ty_page ty_pages ty_lpage ty_lpages ty_rec ty_recs ty_lrec ty_lrecs ty_eng ty_leng
attribute [local go_sem] true_and and_true beq_true' beq_false' toNat_cast Int.natCast_nonneg Bool.not_not Bool.not_true Bool.not_false decide_true decide_false Bool.or_false Bool.false_or Bool.or_true Bool.true_or Bool.and_false Bool.false_and Nat.zero_add Int.toNat_of_nonneg wrap_succ wrap_m1 wrap_nat succ_m1 cast0 succ_pos' succ_ne' succ_bne' ge_iff_le gt_iff_lt if_true if_false
attribute [local go_sem] slt_r slt_I slt_p ty_rd ty_ev ty_evs
def redoE (e : Eng) : List Pg := if okE e = true then e.redo else []
theorem EngineRedoI_fn (e : Eng) (h : e.small) : Fn1 Tryz.prog 51 [eA e] (pgs (redoE e)) := by
  have c1 := okI e h
  refine fn1_of Tryz.func51 rfl rfl ?_
  unfold redoE
  rcases hok : okE e with _ | _
  · rw [hok] at c1
    simp -implicitDefEqProofs only [go_sem, z1, z2, z3, z4, z5, z6, z7, z8, z9, za, zb, zc, ↓reduceIte, Tryz.f51]
    (repeat' (first | ((with_reducible first | refine gon ?_ ?_ | refine gos ?_ ?_ | refine cdn ?_ ?_ | refine cds ?_ ?_ | refine gpn ?_ ?_ | refine gps ?_ ?_) <;> intro h <;> (try simp only [dt, df, gi, gt] at h) <;> try simp -implicitDefEqProofs only [go_sem, z1, z2, z3, z4, z5, z6, z7, z8, z9, za, zb, zc, ↓reduceIte, *]) | ((with_reducible refine And.intro ?_ ?_); (· first | omega | (simp only [List.length_take]; omega)); try simp -implicitDefEqProofs only [go_sem, z1, z2, z3, z4, z5, z6, z7, z8, z9, za, zb, zc, ↓reduceIte, *]) | ((with_reducible refine enter_pu (c1) ?_ ?_ ?_); (· rfl); (· rfl); try simp -implicitDefEqProofs only [go_sem, z1, z2, z3, z4, z5, z6, z7, z8, z9, za, zb, zc, ↓reduceIte, *])))
    exact fin_drawn (.of _ _ (.of _ _ (.nil 3 (by decide)))) ⟨⟨rfl, rfl⟩, rfl⟩
  · rw [hok] at c1
    have hi := inv_of_ok hok
    have c2 := redoI_own e.disk e.log hi.disk.sz hi.wf
    have h5 : e.redo.length = 5 := (redoTo_rg hi.disk hi.wf _ (Nat.le_refl _)).len
    simp -implicitDefEqProofs only [go_sem, z1, z2, z3, z4, z5, z6, z7, z8, z9, za, zb, zc, ↓reduceIte, Tryz.f51]
    (repeat' (first | ((with_reducible first | refine gon ?_ ?_ | refine gos ?_ ?_ | refine cdn ?_ ?_ | refine cds ?_ ?_ | refine gpn ?_ ?_ | refine gps ?_ ?_) <;> intro h <;> (try simp only [dt, df, gi, gt] at h) <;> try simp -implicitDefEqProofs only [go_sem, z1, z2, z3, z4, z5, z6, z7, z8, z9, za, zb, zc, ↓reduceIte, *]) | ((with_reducible refine And.intro ?_ ?_); (· first | omega | (simp only [List.length_take]; omega)); try simp -implicitDefEqProofs only [go_sem, z1, z2, z3, z4, z5, z6, z7, z8, z9, za, zb, zc, ↓reduceIte, *]) | first | ((with_reducible refine enter_pu (c1) ?_ ?_ ?_); (· rfl); (· rfl); try simp -implicitDefEqProofs only [go_sem, z1, z2, z3, z4, z5, z6, z7, z8, z9, za, zb, zc, ↓reduceIte, *]) | ((with_reducible refine enter_fn (c2) ?_ ?_); (· rfl); try simp -implicitDefEqProofs only [go_sem, z1, z2, z3, z4, z5, z6, z7, z8, z9, za, zb, zc, ↓reduceIte, *])))
    exact fin_drawn (.of _ _ (.of _ _ (rd_pgs (ps := e.redo) (by decide) (by decide) rfl h5))) ⟨⟨rfl, rfl⟩, rfl⟩
theorem EngineRedoS_fn (e : Eng) (h : e.small) : Fn1 Tryz.prog 53 [eA e] (pgs (redoE e)) := by
  have c1 := okS e h
  refine fn1_of Tryz.func53 rfl rfl ?_
  unfold redoE
  rcases hok : okE e with _ | _
  · rw [hok] at c1
    simp -implicitDefEqProofs only [go_sem, z1, z2, z3, z4, z5, z6, z7, z8, z9, za, zb, zc, ↓reduceIte, Tryz.f53]
    (repeat' (first | ((with_reducible first | refine gon ?_ ?_ | refine gos ?_ ?_ | refine cdn ?_ ?_ | refine cds ?_ ?_ | refine gpn ?_ ?_ | refine gps ?_ ?_) <;> intro h <;> (try simp only [dt, df, gi, gt] at h) <;> try simp -implicitDefEqProofs only [go_sem, z1, z2, z3, z4, z5, z6, z7, z8, z9, za, zb, zc, ↓reduceIte, *]) | ((with_reducible refine And.intro ?_ ?_); (· first | omega | (simp only [List.length_take]; omega)); try simp -implicitDefEqProofs only [go_sem, z1, z2, z3, z4, z5, z6, z7, z8, z9, za, zb, zc, ↓reduceIte, *]) | ((with_reducible refine enter_pu (c1) ?_ ?_ ?_); (· rfl); (· rfl); try simp -implicitDefEqProofs only [go_sem, z1, z2, z3, z4, z5, z6, z7, z8, z9, za, zb, zc, ↓reduceIte, *])))
    exact fin_drawn (.of _ _ (.of _ _ (.drop 1 3 0 0 _ [] (by decide) (by decide) rfl rfl (by simp) .nil))) ⟨⟨rfl, rfl⟩, rfl⟩
  · rw [hok] at c1
    have hi := inv_of_ok hok
    have c2 := l11Redo_own e.disk e.log hi.disk.sz hi.wf
    have h5 : e.redo.length = 5 := (redoTo_rg hi.disk hi.wf _ (Nat.le_refl _)).len
    simp -implicitDefEqProofs only [go_sem, z1, z2, z3, z4, z5, z6, z7, z8, z9, za, zb, zc, ↓reduceIte, Tryz.f53]
    (repeat' (first | ((with_reducible first | refine gon ?_ ?_ | refine gos ?_ ?_ | refine cdn ?_ ?_ | refine cds ?_ ?_ | refine gpn ?_ ?_ | refine gps ?_ ?_) <;> intro h <;> (try simp only [dt, df, gi, gt] at h) <;> try simp -implicitDefEqProofs only [go_sem, z1, z2, z3, z4, z5, z6, z7, z8, z9, za, zb, zc, ↓reduceIte, *]) | ((with_reducible refine And.intro ?_ ?_); (· first | omega | (simp only [List.length_take]; omega)); try simp -implicitDefEqProofs only [go_sem, z1, z2, z3, z4, z5, z6, z7, z8, z9, za, zb, zc, ↓reduceIte, *]) | first | ((with_reducible refine enter_pu (c1) ?_ ?_ ?_); (· rfl); (· rfl); try simp -implicitDefEqProofs only [go_sem, z1, z2, z3, z4, z5, z6, z7, z8, z9, za, zb, zc, ↓reduceIte, *]) | ((with_reducible refine enter_fn (c2) ?_ ?_); (· rfl); try simp -implicitDefEqProofs only [go_sem, z1, z2, z3, z4, z5, z6, z7, z8, z9, za, zb, zc, ↓reduceIte, *])))
    exact fin_drawn (.of _ _ (.of _ _ (rd_pgs (ps := e.redo) (by decide) (by decide) rfl h5))) ⟨⟨rfl, rfl⟩, rfl⟩
theorem DrawEngineRedo_c (l : List Int) (hl : l.length < 4611686018427387904) (hb : Byt l) : FnX 50 [bts l] (fun e : Eng => e.dr) eA := by
  refine afnx_of Tryz.func50 rfl rfl ?_
  simp -implicitDefEqProofs only [go_sem, z1, z2, z3, z4, z5, z6, z7, z8, z9, za, zb, zc, ↓reduceIte, Tryz.f50]
  (repeat' (first | ((with_reducible first | refine gon ?_ ?_ | refine gos ?_ ?_ | refine cdn ?_ ?_ | refine cds ?_ ?_ | refine gpn ?_ ?_ | refine gps ?_ ?_) <;> intro h <;> (try simp only [dt, df, gi, gt] at h) <;> try simp -implicitDefEqProofs only [go_sem, z1, z2, z3, z4, z5, z6, z7, z8, z9, za, zb, zc, ↓reduceIte, *]) | ((with_reducible refine And.intro ?_ ?_); (· first | omega | (simp only [List.length_take]; omega)); try simp -implicitDefEqProofs only [go_sem, z1, z2, z3, z4, z5, z6, z7, z8, z9, za, zb, zc, ↓reduceIte, *]) | ((with_reducible refine enter_at ([] : List Nat) (M2 := []) (l6Open_c l hl hb) (by decide) ?_ ?_ rfl ?_); (· repeat (first | exact Keeps.nil | (refine Keeps.cons _ _ _ _ _ rfl rfl ?_ ?_; (· first | exact a2_p _ _ | exact a2_1 rfl | exact a2_I _ _)))); (· repeat (first | exact All2.nil | (refine All2.cons _ _ _ _ ?_ ?_; (· first | exact rnT_eX rfl rfl | exact rnT_prim | exact rnT_sl | exact rnT_ref rfl | exact rnT_agg rfl | exact rnT_own rfl | exact rnT_eX5 rfl rfl)))); rintro l' hC; try simp -implicitDefEqProofs only [go_sem, z1, z2, z3, z4, z5, z6, z7, z8, z9, za, zb, zc, ↓reduceIte, *])))
  (repeat' (first | ((with_reducible first | refine gon ?_ ?_ | refine gos ?_ ?_ | refine cdn ?_ ?_ | refine cds ?_ ?_ | refine gpn ?_ ?_ | refine gps ?_ ?_) <;> intro h <;> (try simp only [dt, df, gi, gt] at h) <;> try simp -implicitDefEqProofs only [go_sem, z1, z2, z3, z4, z5, z6, z7, z8, z9, za, zb, zc, ↓reduceIte, *]) | ((with_reducible refine And.intro ?_ ?_); (· first | omega | (simp only [List.length_take]; omega)); try simp -implicitDefEqProofs only [go_sem, z1, z2, z3, z4, z5, z6, z7, z8, z9, za, zb, zc, ↓reduceIte, *]) | ((with_reducible refine at_readerI (i := 1) ?_ (l72Engine_c l' 0 hC (by omega)) (fun _ _ => rfl) ?_); (· rfl); rintro ⟨e, p2⟩ ⟨h0, h1, h2⟩; simp only at *; try simp -implicitDefEqProofs only [go_sem, z1, z2, z3, z4, z5, z6, z7, z8, z9, za, zb, zc, ↓reduceIte, *])))
  exact fin_drawn (rd_same rfl) ⟨e, h0, rfl, rfl, rfl⟩
end Go.Proofs.YtihplpffmdeldaaGreat.Am
end
section
set_option linter.unusedVariables false
set_option linter.unusedSimpArgs false
set_option maxRecDepth 100000
set_option maxHeartbeats 8000000
namespace Go.Proofs.YtihplpffmdeldaaGreat.Am
open Go Go.RowKit Go.Proofs
open Nat renaming reduceAdd → z1, reduceSub → z2, reduceMul → z3, reduceLT → z4, reduceLeDiff → z5, reduceEqDiff → z6
open Int renaming reduceBEq → z7, reduceBNe → z8, reduceNeg → z9, reduceSub → za, reduceLE → zb, reduceLT → zc
attribute [local congr] opsP_congr codeP_congr AWP_congr afterR_congr preP_congr afterPre_congr gPre_congr gOps_congr condP_congr stepE_congr
attribute [local go_sem] ty_int ty_bool ty_str ty_u8 ty_ints ty_bytes ty_page ty_pages ty_lpage ty_lpages ty_rec ty_recs ty_lrec ty_lrecs ty_eng ty_leng
attribute [local go_sem] true_and and_true beq_true' beq_false' toNat_cast Int.natCast_nonneg Bool.not_not Bool.not_true Bool.not_false decide_true decide_false Bool.or_false Bool.false_or Bool.or_true Bool.true_or Bool.and_false Bool.false_and Nat.zero_add Int.toNat_of_nonneg wrap_succ wrap_m1 wrap_nat succ_m1 cast0 succ_pos' succ_ne' succ_bne' ge_iff_le gt_iff_lt if_true if_false
attribute [local go_sem] slt_r slt_I slt_p ty_rd ty_ev ty_evs yieldR_idx'
attribute [local congr] yieldR_congr nc_congr
@[local go_sem] theorem yieldR_loadA {α : Type} [Inhabited α] {zs : List Value} {n : Nat} {sh : Sh} {z0 : Nat} {f : α → AV} {l : List α} {z k sub : Nat} {v : AV} :
    yieldR (loadM ⟨true, zs, n, sh⟩ z0 f l z k sub) v = ((z0 = z ∧ k < l.length ∧ sub + zs.length ≤ z) ∧ .agg (((f (at' l (k : Int))).cells.drop sub).take zs.length) = v) := by
  unfold loadM
  rw [loadO_agg, yieldR_val, List.length_map]
  exact propext ⟨fun ⟨h, k⟩ => ⟨h, by rw [getM h.2.1] at k; exact k⟩, fun ⟨h, k⟩ => ⟨h, by rw [getM h.2.1]; exact k⟩⟩
/-- A drawn region behind which there is one state. -/
theorem cp_one {P : Program} {id : Nat} {ops : Array Oper} {Q : Exit → St → Prop} {st st1 : St} (h : codeP P (.region id ops true) (fun ex s => ex = .normal ∧ s = st1) st) (h2 : Q .normal st1) : codeP P (.region id ops true) Q st := by
  intro ok w0 μ0 Sc μ a w hr
  refine Code.wp_mono ?_ (h ok w0 μ0 Sc μ a w hr)
  rintro ex a' w' ⟨st', μ', ⟨rfl, rfl⟩, hrel⟩
  exact ⟨_, μ', h2, hrel⟩
def doB (p : Pg) (r : Rc) (n : Int) : Bool := p.ok && r.ok && chg r.kind && decide (p.lsn < n) && decide (n ≤ 150) && (doP p r n).ok
def doR (p : Pg) (r : Rc) (n : Int) : Pg := if doB p r n = true then doP p r n else ⟨0, 0, []⟩
theorem doB_f {p : Pg} {r : Rc} {n : Int} (h : ¬ (p.ok = true ∧ r.ok = true ∧ chg r.kind = true ∧ p.lsn < n ∧ n ≤ 150 ∧ (doP p r n).ok = true)) : doB p r n = false := by
  rw [← Bool.not_eq_true]
  intro h2
  unfold doB at h2
  simp only [Bool.and_eq_true, decide_eq_true_eq] at h2
  exact h ⟨h2.1.1.1.1.1, h2.1.1.1.1.2, h2.1.1.1.2, h2.1.1.2, h2.1.2, h2.2⟩
theorem doR_f {p : Pg} {r : Rc} {n : Int} (h : doB p r n = false) : doR p r n = ⟨0, 0, []⟩ := if_neg (by rw [h]; decide)
theorem rd_p0 {S : Store} : Rd1 [] S 0 (.agg [I 0, I 0, .prim (.slice none 0 0)]) (pA ⟨0, 0, []⟩) := .agg _ _ (.cons _ _ _ _ (.rn _ _ (.same _ rfl)) (.cons _ _ _ _ (.rn _ _ (.same _ rfl)) (.cons _ _ _ _ (.nil 1 (by decide)) .nil)))
theorem rd_no {S : Store} {b : Bool} : RdT [] S 0 (.tup [.agg [I 0, I 0, .prim (.slice none 0 0)], Bo b]) (.tup [pA ⟨0, 0, []⟩, Bo b]) := .tup _ _ (.cons _ _ _ _ rd_p0 (.cons _ _ _ _ (.of _ _ (.rn _ _ (.same _ rfl))) .nil))
theorem rd_yes {S : Store} {a c : Int} {d : List Int} {b : Bool} : RdT [] S 0 (.tup [.agg [I a, I c, ints d], Bo b]) (.tup [pA ⟨a, c, d⟩, Bo b]) := .tup _ _ (.cons _ _ _ _ (.agg _ _ (.cons _ _ _ _ (.rn _ _ (.same _ rfl)) (.cons _ _ _ _ (.rn _ _ (.same _ rfl)) (.cons _ _ _ _ (.rn _ _ (.same _ rfl)) .nil)))) (.cons _ _ _ _ (.of _ _ (.rn _ _ (.same _ rfl))) .nil))
theorem RecDo_fn (p : Pg) (r : Rc) (n : Int) (hv : p.vals.length < 4611686018427387904) : Fn1 Tryz.prog 54 [pA p, rA r, I n] (.tup [pA (doR p r n), Bo (doB p r n)]) := by
  have c1 := PageOkI_fn p hv
  have c2 := recC r
  have c3 := changes_fn r
  refine fn1_of Tryz.func54 rfl rfl ?_
  rcases h1 : p.ok with _ | _
  · rw [h1] at c1
    have hd : doB p r n = false := doB_f (by rw [h1]; rintro ⟨h, -⟩; cases h)
    rw [doR_f hd, hd]
    simp -implicitDefEqProofs only [go_sem, z1, z2, z3, z4, z5, z6, z7, z8, z9, za, zb, zc, ↓reduceIte, Tryz.f54]
    (repeat' (first | ((with_reducible first | refine gon ?_ ?_ | refine gos ?_ ?_ | refine cdn ?_ ?_ | refine cds ?_ ?_ | refine gpn ?_ ?_ | refine gps ?_ ?_) <;> intro h <;> (try simp only [dt, df, gi, gt] at h) <;> try simp -implicitDefEqProofs only [go_sem, z1, z2, z3, z4, z5, z6, z7, z8, z9, za, zb, zc, ↓reduceIte, *]) | ((with_reducible refine And.intro ?_ ?_); (· first | omega | (simp only [List.length_take]; omega)); try simp -implicitDefEqProofs only [go_sem, z1, z2, z3, z4, z5, z6, z7, z8, z9, za, zb, zc, ↓reduceIte, *]) | first | ((with_reducible refine enter_pu (c1) ?_ ?_ ?_); (· rfl); (· rfl); try simp -implicitDefEqProofs only [go_sem, z1, z2, z3, z4, z5, z6, z7, z8, z9, za, zb, zc, ↓reduceIte, *]) | ((with_reducible refine enter_pu (c2) ?_ ?_ ?_); (· rfl); (· rfl); try simp -implicitDefEqProofs only [go_sem, z1, z2, z3, z4, z5, z6, z7, z8, z9, za, zb, zc, ↓reduceIte, *]) | ((with_reducible refine enter_pu (c3) ?_ ?_ ?_); (· rfl); (· rfl); try simp -implicitDefEqProofs only [go_sem, z1, z2, z3, z4, z5, z6, z7, z8, z9, za, zb, zc, ↓reduceIte, *])))
    all_goals first | exact fin_pu rfl rfl | exact fin_drawn rd_no ⟨⟨rfl, rfl⟩, rfl⟩ | exact fin_drawn rd_yes ⟨⟨rfl, rfl⟩, rfl⟩
  rw [h1] at c1
  rcases h2 : r.ok with _ | _
  · rw [h2] at c2
    have hd : doB p r n = false := doB_f (by rw [h2]; rintro ⟨-, h, -⟩; cases h)
    rw [doR_f hd, hd]
    simp -implicitDefEqProofs only [go_sem, z1, z2, z3, z4, z5, z6, z7, z8, z9, za, zb, zc, ↓reduceIte, Tryz.f54]
    (repeat' (first | ((with_reducible first | refine gon ?_ ?_ | refine gos ?_ ?_ | refine cdn ?_ ?_ | refine cds ?_ ?_ | refine gpn ?_ ?_ | refine gps ?_ ?_) <;> intro h <;> (try simp only [dt, df, gi, gt] at h) <;> try simp -implicitDefEqProofs only [go_sem, z1, z2, z3, z4, z5, z6, z7, z8, z9, za, zb, zc, ↓reduceIte, *]) | ((with_reducible refine And.intro ?_ ?_); (· first | omega | (simp only [List.length_take]; omega)); try simp -implicitDefEqProofs only [go_sem, z1, z2, z3, z4, z5, z6, z7, z8, z9, za, zb, zc, ↓reduceIte, *]) | first | ((with_reducible refine enter_pu (c1) ?_ ?_ ?_); (· rfl); (· rfl); try simp -implicitDefEqProofs only [go_sem, z1, z2, z3, z4, z5, z6, z7, z8, z9, za, zb, zc, ↓reduceIte, *]) | ((with_reducible refine enter_pu (c2) ?_ ?_ ?_); (· rfl); (· rfl); try simp -implicitDefEqProofs only [go_sem, z1, z2, z3, z4, z5, z6, z7, z8, z9, za, zb, zc, ↓reduceIte, *]) | ((with_reducible refine enter_pu (c3) ?_ ?_ ?_); (· rfl); (· rfl); try simp -implicitDefEqProofs only [go_sem, z1, z2, z3, z4, z5, z6, z7, z8, z9, za, zb, zc, ↓reduceIte, *])))
    all_goals first | exact fin_pu rfl rfl | exact fin_drawn rd_no ⟨⟨rfl, rfl⟩, rfl⟩ | exact fin_drawn rd_yes ⟨⟨rfl, rfl⟩, rfl⟩
  rw [h2] at c2
  rcases h3 : chg r.kind with _ | _
  · rw [h3] at c3
    have hd : doB p r n = false := doB_f (by rw [h3]; rintro ⟨-, -, h, -⟩; cases h)
    rw [doR_f hd, hd]
    simp -implicitDefEqProofs only [go_sem, z1, z2, z3, z4, z5, z6, z7, z8, z9, za, zb, zc, ↓reduceIte, Tryz.f54]
    (repeat' (first | ((with_reducible first | refine gon ?_ ?_ | refine gos ?_ ?_ | refine cdn ?_ ?_ | refine cds ?_ ?_ | refine gpn ?_ ?_ | refine gps ?_ ?_) <;> intro h <;> (try simp only [dt, df, gi, gt] at h) <;> try simp -implicitDefEqProofs only [go_sem, z1, z2, z3, z4, z5, z6, z7, z8, z9, za, zb, zc, ↓reduceIte, *]) | ((with_reducible refine And.intro ?_ ?_); (· first | omega | (simp only [List.length_take]; omega)); try simp -implicitDefEqProofs only [go_sem, z1, z2, z3, z4, z5, z6, z7, z8, z9, za, zb, zc, ↓reduceIte, *]) | first | ((with_reducible refine enter_pu (c1) ?_ ?_ ?_); (· rfl); (· rfl); try simp -implicitDefEqProofs only [go_sem, z1, z2, z3, z4, z5, z6, z7, z8, z9, za, zb, zc, ↓reduceIte, *]) | ((with_reducible refine enter_pu (c2) ?_ ?_ ?_); (· rfl); (· rfl); try simp -implicitDefEqProofs only [go_sem, z1, z2, z3, z4, z5, z6, z7, z8, z9, za, zb, zc, ↓reduceIte, *]) | ((with_reducible refine enter_pu (c3) ?_ ?_ ?_); (· rfl); (· rfl); try simp -implicitDefEqProofs only [go_sem, z1, z2, z3, z4, z5, z6, z7, z8, z9, za, zb, zc, ↓reduceIte, *])))
    all_goals first | exact fin_pu rfl rfl | exact fin_drawn rd_no ⟨⟨rfl, rfl⟩, rfl⟩ | exact fin_drawn rd_yes ⟨⟨rfl, rfl⟩, rfl⟩
  rw [h3] at c3
  by_cases h4 : n ≤ p.lsn
  · have hd : doB p r n = false := doB_f (by rintro ⟨-, -, -, h, -⟩; omega)
    rw [doR_f hd, hd]
    simp -implicitDefEqProofs only [go_sem, z1, z2, z3, z4, z5, z6, z7, z8, z9, za, zb, zc, ↓reduceIte, Tryz.f54, h4]
    (repeat' (first | ((with_reducible first | refine gon ?_ ?_ | refine gos ?_ ?_ | refine cdn ?_ ?_ | refine cds ?_ ?_ | refine gpn ?_ ?_ | refine gps ?_ ?_) <;> intro h <;> (try simp only [dt, df, gi, gt] at h) <;> try simp -implicitDefEqProofs only [go_sem, z1, z2, z3, z4, z5, z6, z7, z8, z9, za, zb, zc, ↓reduceIte, *]) | ((with_reducible refine And.intro ?_ ?_); (· first | omega | (simp only [List.length_take]; omega)); try simp -implicitDefEqProofs only [go_sem, z1, z2, z3, z4, z5, z6, z7, z8, z9, za, zb, zc, ↓reduceIte, *]) | first | ((with_reducible refine enter_pu (c1) ?_ ?_ ?_); (· rfl); (· rfl); try simp -implicitDefEqProofs only [go_sem, z1, z2, z3, z4, z5, z6, z7, z8, z9, za, zb, zc, ↓reduceIte, *]) | ((with_reducible refine enter_pu (c2) ?_ ?_ ?_); (· rfl); (· rfl); try simp -implicitDefEqProofs only [go_sem, z1, z2, z3, z4, z5, z6, z7, z8, z9, za, zb, zc, ↓reduceIte, *]) | ((with_reducible refine enter_pu (c3) ?_ ?_ ?_); (· rfl); (· rfl); try simp -implicitDefEqProofs only [go_sem, z1, z2, z3, z4, z5, z6, z7, z8, z9, za, zb, zc, ↓reduceIte, *])))
    all_goals first | exact fin_pu rfl rfl | exact fin_drawn rd_no ⟨⟨rfl, rfl⟩, rfl⟩ | exact fin_drawn rd_yes ⟨⟨rfl, rfl⟩, rfl⟩
  by_cases h5 : 150 < n
  · have hd : doB p r n = false := doB_f (by rintro ⟨-, -, -, -, h, -⟩; omega)
    rw [doR_f hd, hd]
    simp -implicitDefEqProofs only [go_sem, z1, z2, z3, z4, z5, z6, z7, z8, z9, za, zb, zc, ↓reduceIte, Tryz.f54, h4, h5]
    (repeat' (first | ((with_reducible first | refine gon ?_ ?_ | refine gos ?_ ?_ | refine cdn ?_ ?_ | refine cds ?_ ?_ | refine gpn ?_ ?_ | refine gps ?_ ?_) <;> intro h <;> (try simp only [dt, df, gi, gt] at h) <;> try simp -implicitDefEqProofs only [go_sem, z1, z2, z3, z4, z5, z6, z7, z8, z9, za, zb, zc, ↓reduceIte, *]) | ((with_reducible refine And.intro ?_ ?_); (· first | omega | (simp only [List.length_take]; omega)); try simp -implicitDefEqProofs only [go_sem, z1, z2, z3, z4, z5, z6, z7, z8, z9, za, zb, zc, ↓reduceIte, *]) | first | ((with_reducible refine enter_pu (c1) ?_ ?_ ?_); (· rfl); (· rfl); try simp -implicitDefEqProofs only [go_sem, z1, z2, z3, z4, z5, z6, z7, z8, z9, za, zb, zc, ↓reduceIte, *]) | ((with_reducible refine enter_pu (c2) ?_ ?_ ?_); (· rfl); (· rfl); try simp -implicitDefEqProofs only [go_sem, z1, z2, z3, z4, z5, z6, z7, z8, z9, za, zb, zc, ↓reduceIte, *]) | ((with_reducible refine enter_pu (c3) ?_ ?_ ?_); (· rfl); (· rfl); try simp -implicitDefEqProofs only [go_sem, z1, z2, z3, z4, z5, z6, z7, z8, z9, za, zb, zc, ↓reduceIte, *])))
    all_goals first | exact fin_pu rfl rfl | exact fin_drawn rd_no ⟨⟨rfl, rfl⟩, rfl⟩ | exact fin_drawn rd_yes ⟨⟨rfl, rfl⟩, rfl⟩
  have hp3 := Pg.ok_len h1
  have c4 := with_fn p r hp3 (Rc.ok_slot h2).2
  have hl : (doP p r n).vals.length = 3 := doP_sz (by exact hp3)
  have c5 := PageOkI_fn (doP p r n) (by omega)
  have e := doP_at p r p.lsn n
  obtain ⟨qa, qb, qc, hq⟩ : ∃ a b c, doP p r p.lsn = ⟨a, b, c⟩ := ⟨_, _, _, rfl⟩
  rw [hq] at c4 e
  simp only at e
  rw [← e] at c5
  rcases h6 : (doP p r n).ok with _ | _
  · have hd : doB p r n = false := doB_f (by rw [h6]; rintro ⟨-, -, -, -, -, h⟩; cases h)
    rw [doR_f hd, hd]
    rw [e, h6, ← e] at c5
    clear e hq
    simp -implicitDefEqProofs only [go_sem, z1, z2, z3, z4, z5, z6, z7, z8, z9, za, zb, zc, ↓reduceIte, Tryz.f54, h4, h5]
    (repeat' (first | ((with_reducible first | refine gon ?_ ?_ | refine gos ?_ ?_ | refine cdn ?_ ?_ | refine cds ?_ ?_ | refine gpn ?_ ?_ | refine gps ?_ ?_) <;> intro h <;> (try simp only [dt, df, gi, gt] at h) <;> try simp -implicitDefEqProofs only [go_sem, z1, z2, z3, z4, z5, z6, z7, z8, z9, za, zb, zc, ↓reduceIte, *]) | ((with_reducible refine And.intro ?_ ?_); (· first | omega | (simp only [List.length_take]; omega)); try simp -implicitDefEqProofs only [go_sem, z1, z2, z3, z4, z5, z6, z7, z8, z9, za, zb, zc, ↓reduceIte, *]) | first | ((with_reducible refine enter_pu (c1) ?_ ?_ ?_); (· rfl); (· rfl); try simp -implicitDefEqProofs only [go_sem, z1, z2, z3, z4, z5, z6, z7, z8, z9, za, zb, zc, ↓reduceIte, *]) | ((with_reducible refine enter_pu (c2) ?_ ?_ ?_); (· rfl); (· rfl); try simp -implicitDefEqProofs only [go_sem, z1, z2, z3, z4, z5, z6, z7, z8, z9, za, zb, zc, ↓reduceIte, *]) | ((with_reducible refine enter_pu (c3) ?_ ?_ ?_); (· rfl); (· rfl); try simp -implicitDefEqProofs only [go_sem, z1, z2, z3, z4, z5, z6, z7, z8, z9, za, zb, zc, ↓reduceIte, *]) | ((with_reducible refine enter_pu (c4) ?_ ?_ ?_); (· rfl); (· rfl); try simp -implicitDefEqProofs only [go_sem, z1, z2, z3, z4, z5, z6, z7, z8, z9, za, zb, zc, ↓reduceIte, *]) | ((with_reducible refine enter_pu (c5) ?_ ?_ ?_); (· rfl); (· rfl); try simp -implicitDefEqProofs only [go_sem, z1, z2, z3, z4, z5, z6, z7, z8, z9, za, zb, zc, ↓reduceIte, *])))
    all_goals first | exact fin_pu rfl rfl | exact fin_drawn rd_no ⟨⟨rfl, rfl⟩, rfl⟩ | exact fin_drawn rd_yes ⟨⟨rfl, rfl⟩, rfl⟩
  · have hd : doB p r n = true := by
      unfold doB
      rw [h1, h2, h3, h6]
      simp only [Bool.true_and, Bool.and_true, Bool.and_eq_true, decide_eq_true_eq]
      omega
    rw [show doR p r n = doP p r n from if_pos hd, hd]
    rw [e, h6, ← e] at c5
    rw [← e]
    clear e hq
    simp -implicitDefEqProofs only [go_sem, z1, z2, z3, z4, z5, z6, z7, z8, z9, za, zb, zc, ↓reduceIte, Tryz.f54, h4, h5]
    (repeat' (first | ((with_reducible first | refine gon ?_ ?_ | refine gos ?_ ?_ | refine cdn ?_ ?_ | refine cds ?_ ?_ | refine gpn ?_ ?_ | refine gps ?_ ?_) <;> intro h <;> (try simp only [dt, df, gi, gt] at h) <;> try simp -implicitDefEqProofs only [go_sem, z1, z2, z3, z4, z5, z6, z7, z8, z9, za, zb, zc, ↓reduceIte, *]) | ((with_reducible refine And.intro ?_ ?_); (· first | omega | (simp only [List.length_take]; omega)); try simp -implicitDefEqProofs only [go_sem, z1, z2, z3, z4, z5, z6, z7, z8, z9, za, zb, zc, ↓reduceIte, *]) | first | ((with_reducible refine enter_pu (c1) ?_ ?_ ?_); (· rfl); (· rfl); try simp -implicitDefEqProofs only [go_sem, z1, z2, z3, z4, z5, z6, z7, z8, z9, za, zb, zc, ↓reduceIte, *]) | ((with_reducible refine enter_pu (c2) ?_ ?_ ?_); (· rfl); (· rfl); try simp -implicitDefEqProofs only [go_sem, z1, z2, z3, z4, z5, z6, z7, z8, z9, za, zb, zc, ↓reduceIte, *]) | ((with_reducible refine enter_pu (c3) ?_ ?_ ?_); (· rfl); (· rfl); try simp -implicitDefEqProofs only [go_sem, z1, z2, z3, z4, z5, z6, z7, z8, z9, za, zb, zc, ↓reduceIte, *]) | ((with_reducible refine enter_pu (c4) ?_ ?_ ?_); (· rfl); (· rfl); try simp -implicitDefEqProofs only [go_sem, z1, z2, z3, z4, z5, z6, z7, z8, z9, za, zb, zc, ↓reduceIte, *]) | ((with_reducible refine enter_pu (c5) ?_ ?_ ?_); (· rfl); (· rfl); try simp -implicitDefEqProofs only [go_sem, z1, z2, z3, z4, z5, z6, z7, z8, z9, za, zb, zc, ↓reduceIte, *])))
    all_goals first | exact fin_pu rfl rfl | exact fin_drawn rd_no ⟨⟨rfl, rfl⟩, rfl⟩ | exact fin_drawn rd_yes ⟨⟨rfl, rfl⟩, rfl⟩
theorem redoE_len (e : Eng) : (redoE e).length < 4611686018427387904 ∧ ∀ p ∈ redoE e, p.vals.length < 4611686018427387904 := by
  unfold redoE
  split
  · rename_i hok
    have hi := inv_of_ok hok
    have : e.redo.length = 5 := (redoTo_rg hi.disk hi.wf _ (Nat.le_refl _)).len
    refine ⟨by omega, fun p hp => ?_⟩
    have := rgs_vals (redoTo_rg hi.disk hi.wf _ (Nat.le_refl _)) p hp
    omega
  · exact ⟨by decide, fun p hp => by cases hp⟩
theorem RedoSteps_law (l : List Int) (hl : l.length < 4611686018427387904) (hb : Byt l) : Fn1 Tryz.prog 14 [bts l] (Bo true) := by
  refine fn1_of Tryz.func14 rfl rfl ?_
  by_cases hlen : (1048576 : Int) < (l.length : Int)
  · simp -implicitDefEqProofs only [go_sem, z1, z2, z3, z4, z5, z6, z7, z8, z9, za, zb, zc, ↓reduceIte, Tryz.f14, hlen]
    exact fin_pu rfl rfl
  simp -implicitDefEqProofs only [go_sem, z1, z2, z3, z4, z5, z6, z7, z8, z9, za, zb, zc, ↓reduceIte, Tryz.f14, hlen]
  (repeat' (first | ((with_reducible first | refine gon ?_ ?_ | refine gos ?_ ?_ | refine cdn ?_ ?_ | refine cds ?_ ?_ | refine gpn ?_ ?_ | refine gps ?_ ?_) <;> intro h <;> (try simp only [dt, df, gi, gt] at h) <;> try simp -implicitDefEqProofs only [go_sem, z1, z2, z3, z4, z5, z6, z7, z8, z9, za, zb, zc, ↓reduceIte, *]) | ((with_reducible refine And.intro ?_ ?_); (· first | omega | (simp only [List.length_take]; omega)); try simp -implicitDefEqProofs only [go_sem, z1, z2, z3, z4, z5, z6, z7, z8, z9, za, zb, zc, ↓reduceIte, *]) | ((with_reducible refine enter_at ([] : List Nat) (M2 := []) (DrawEngineRedo_c l hl hb) (by decide) ?_ ?_ rfl ?_); (· repeat (first | exact Keeps.nil | (refine Keeps.cons _ _ _ _ _ rfl rfl ?_ ?_; (· first | exact a2_p _ _ | exact a2_1 rfl | exact a2_I _ _)))); (· repeat (first | exact All2.nil | (refine All2.cons _ _ _ _ ?_ ?_; (· first | exact rnT_eX rfl rfl | exact rnT_prim | exact rnT_sl | exact rnT_ref rfl | exact rnT_agg rfl | exact rnT_own rfl | exact rnT_eX5 rfl rfl)))); rintro e hdr; try simp -implicitDefEqProofs only [go_sem, z1, z2, z3, z4, z5, z6, z7, z8, z9, za, zb, zc, ↓reduceIte, *])))
  obtain ⟨ea, eb, ec, es, ed⟩ := e
  have hsm := dr_small hdr
  have c1 := EngineRedoI_fn ⟨ea, eb, ec, es, ed⟩ hsm
  have c2 := EngineRedoS_fn ⟨ea, eb, ec, es, ed⟩ hsm
  have c3 := okS ⟨ea, eb, ec, es, ed⟩ hsm
  have hlog := hsm.log
  have hdl := hsm.disk
  simp only at hlog hdl
  have hrl := redoE_len ⟨ea, eb, ec, es, ed⟩
  have c4 := ltPages_fn _ (redoE ⟨ea, eb, ec, es, ed⟩) hrl.1 hrl.2
  rw [samePs_iff.2 rfl] at c4
  obtain ⟨R, hR⟩ : ∃ R, redoE ⟨ea, eb, ec, es, ed⟩ = R := ⟨_, rfl⟩
  rw [hR] at c1 c2 c4 hrl
  obtain ⟨ok, hok⟩ : ∃ ok, okE ⟨ea, eb, ec, es, ed⟩ = ok := ⟨_, rfl⟩
  rw [hok] at c3
  rcases ok with _ | _
  · (repeat' (first | ((with_reducible first | refine gon ?_ ?_ | refine gos ?_ ?_ | refine cdn ?_ ?_ | refine cds ?_ ?_ | refine gpn ?_ ?_ | refine gps ?_ ?_) <;> intro h <;> (try simp only [dt, df, gi, gt] at h) <;> try simp -implicitDefEqProofs only [go_sem, z1, z2, z3, z4, z5, z6, z7, z8, z9, za, zb, zc, ↓reduceIte, *]) | ((with_reducible refine And.intro ?_ ?_); (· first | omega | (simp only [List.length_take]; omega)); try simp -implicitDefEqProofs only [go_sem, z1, z2, z3, z4, z5, z6, z7, z8, z9, za, zb, zc, ↓reduceIte, *]) | first | ((with_reducible refine enter_pu (c1) ?_ ?_ ?_); (· rfl); (· rfl); try simp -implicitDefEqProofs only [go_sem, z1, z2, z3, z4, z5, z6, z7, z8, z9, za, zb, zc, ↓reduceIte, *]) | ((with_reducible refine enter_pu (c2) ?_ ?_ ?_); (· rfl); (· rfl); try simp -implicitDefEqProofs only [go_sem, z1, z2, z3, z4, z5, z6, z7, z8, z9, za, zb, zc, ↓reduceIte, *]) | ((with_reducible refine enter_pu (c3) ?_ ?_ ?_); (· rfl); (· rfl); try simp -implicitDefEqProofs only [go_sem, z1, z2, z3, z4, z5, z6, z7, z8, z9, za, zb, zc, ↓reduceIte, *]) | ((with_reducible refine enter_pu (c4) ?_ ?_ ?_); (· rfl); (· rfl); try simp -implicitDefEqProofs only [go_sem, z1, z2, z3, z4, z5, z6, z7, z8, z9, za, zb, zc, ↓reduceIte, *])))
    all_goals exact fin_pu rfl rfl
  have hi := inv_of_ok hok
  have hsz := hi.disk.sz
  have hwf := hi.wf
  have hd5 : ea.length = 5 := hsz.len
  (repeat' (first | ((with_reducible first | refine gon ?_ ?_ | refine gos ?_ ?_ | refine cdn ?_ ?_ | refine cds ?_ ?_ | refine gpn ?_ ?_ | refine gps ?_ ?_) <;> intro h <;> (try simp only [dt, df, gi, gt] at h) <;> try simp -implicitDefEqProofs only [go_sem, z1, z2, z3, z4, z5, z6, z7, z8, z9, za, zb, zc, ↓reduceIte, *]) | ((with_reducible refine And.intro ?_ ?_); (· first | omega | (simp only [List.length_take]; omega)); try simp -implicitDefEqProofs only [go_sem, z1, z2, z3, z4, z5, z6, z7, z8, z9, za, zb, zc, ↓reduceIte, *]) | first | ((with_reducible refine enter_pu (c1) ?_ ?_ ?_); (· rfl); (· rfl); try simp -implicitDefEqProofs only [go_sem, z1, z2, z3, z4, z5, z6, z7, z8, z9, za, zb, zc, ↓reduceIte, *]) | ((with_reducible refine enter_pu (c2) ?_ ?_ ?_); (· rfl); (· rfl); try simp -implicitDefEqProofs only [go_sem, z1, z2, z3, z4, z5, z6, z7, z8, z9, za, zb, zc, ↓reduceIte, *]) | ((with_reducible refine enter_pu (c3) ?_ ?_ ?_); (· rfl); (· rfl); try simp -implicitDefEqProofs only [go_sem, z1, z2, z3, z4, z5, z6, z7, z8, z9, za, zb, zc, ↓reduceIte, *]) | ((with_reducible refine enter_pu (c4) ?_ ?_ ?_); (· rfl); (· rfl); try simp -implicitDefEqProofs only [go_sem, z1, z2, z3, z4, z5, z6, z7, z8, z9, za, zb, zc, ↓reduceIte, *])))
  have hRe : samePs R (redoTo ea ec ec.length) = true := samePs_iff.2 (by rw [← hR]; unfold redoE; rw [if_pos hok]; rfl)
  clear c1 c2 c3 c4 hR hok hi hdr hsm
  simp only at hsz hwf
  refine cp_loop (fun i : Nat => ⟨(bts l :: .any :: Bo false :: .ref 0 5 0 0 :: pgs R :: .own 1 3 0 5 :: I (i : Int) :: .any :: .any :: .any :: .any :: .any :: .any :: .any :: .any :: .any :: .any :: .any :: .any :: .any :: .any :: .any :: .any :: .any :: .any :: .any :: .any :: .any :: .any :: .any :: .any :: .any :: .any :: .any :: .any :: .any :: .any :: .any :: .any :: .any :: .any :: .any :: .any :: .any :: .any :: .any :: .any :: .any :: .any :: .any :: .any :: .any :: .any :: .any :: .any :: .any :: .any :: .any :: .any :: .any :: .any :: .any :: .any :: .any :: .any :: .any :: .any :: .any :: .any :: .any :: .any :: .any :: .any :: .any :: .any :: .any :: .any :: .any :: .any :: .any :: .any :: .any :: .any :: .any :: .any :: .any :: .any :: .any :: .any :: .any :: .any :: .any :: []), [some ⟨5, [eA ⟨ea, eb, ec, es, ed⟩]⟩, some ⟨3, (redoTo ea ec i).map pA⟩], [1]⟩) (fun i => i ≤ ec.length) (fun i => ec.length - i) 0 ?_ ?_ ?_
  · simp
  · refine wk_tm ?_; repeat (first | exact WL.nil | (with_reducible refine WL.any _ _ _ ?_) | (with_reducible refine WL.same _ _ _ ?_) | (refine WL.eq _ _ _ _ rfl ?_))
  · rintro i hi
    have hib : i < 4611686018427387904 := by omega
    by_cases hil : i < ec.length
    · have hl1 : (i : Int) < (ec.length : Int) := by omega
      have hs := redoTo_sz hsz hwf i hi
      have hs5 := hs.len
      have hrok := hwf.rok i hil
      obtain ⟨m, hm, hpg⟩ := Rc.ok_page hrok
      have hsz2 : (at' (redoTo ea ec i) (at' ec (i : Int)).page).vals.length = 3 := by rw [hpg]; exact hs.sz m (by omega)
      have h0 : 0 ≤ (at' ec (i : Int)).page := by omega
      have h4 : (at' ec (i : Int)).page ≤ 4 := by omega
      clear hpg
      have hdo := RecDo_fn (at' (redoTo ea ec i) (at' ec (i : Int)).page) (at' ec (i : Int)) ((i + 1 : Nat) : Int) (by omega)
      obtain ⟨q, hq⟩ : ∃ q, doR (at' (redoTo ea ec i) (at' ec (i : Int)).page) (at' ec (i : Int)) ((i + 1 : Nat) : Int) = q := ⟨_, rfl⟩
      obtain ⟨bb, hdb⟩ : ∃ bb, doB (at' (redoTo ea ec i) (at' ec (i : Int)).page) (at' ec (i : Int)) ((i + 1 : Nat) : Int) = bb := ⟨_, rfl⟩
      rw [hq, hdb] at hdo
      have hT : bb = true → redoTo ea ec (i + 1) = (redoTo ea ec i).set (at' ec (i : Int)).page.toNat q := by
        rintro rfl
        rw [← hq, show doR _ _ _ = doP _ _ _ from if_pos hdb]
        unfold doB at hdb
        simp only [Bool.and_eq_true, decide_eq_true_eq] at hdb
        exact if_pos ⟨hdb.1.1.1.2, hdb.1.1.2⟩
      have hF : ¬ (chg (at' ec (i : Int)).kind = true ∧ (at' (redoTo ea ec i) (at' ec (i : Int)).page).lsn < ((i + 1 : Nat) : Int)) → redoTo ea ec (i + 1) = redoTo ea ec i := fun h => if_neg h
      clear hq hdb
      obtain ⟨qa, qb, qc⟩ := q
      simp -implicitDefEqProofs only [go_sem, z1, z2, z3, z4, z5, z6, z7, z8, z9, za, zb, zc, ↓reduceIte, h0, hl1, hib]
      (repeat' (first | ((with_reducible first | refine gon ?_ ?_ | refine gos ?_ ?_ | refine cdn ?_ ?_ | refine cds ?_ ?_ | refine gpn ?_ ?_ | refine gps ?_ ?_) <;> intro h <;> (try simp only [dt, df, gi, gt] at h) <;> try simp -implicitDefEqProofs only [go_sem, z1, z2, z3, z4, z5, z6, z7, z8, z9, za, zb, zc, ↓reduceIte, *]) | ((with_reducible refine And.intro ?_ ?_); (· first | omega | (simp only [List.length_take]; omega)); try simp -implicitDefEqProofs only [go_sem, z1, z2, z3, z4, z5, z6, z7, z8, z9, za, zb, zc, ↓reduceIte, *]) | fail))
      have hp5 : (at' ec (i : Int)).page.toNat < 5 := by omega
      refine cp_one (st1 := ?s) ?h ?k
      case h =>
        refine cp_drawG (id := 12) 15 (fun S => getO S 1 = some ⟨3, (redoTo ea ec i).map pA⟩ ∧ getO S 2 = some ⟨8, [rA (at' ec (i : Int))]⟩) mixed rfl ?_
        ((refine expG_get 0 (.own 1 3 0 5) rfl ?_ ?_ (by repeat (first | rfl | refine And.intro rfl ?_)) ?_ ?_); (· decide +kernel); (· decide +kernel); (· (intro S hS0; simp -implicitDefEqProofs only [go_sem, z1, z2, z3, z4, z5, z6, z7, z8, z9, za, zb, zc, ↓reduceIte, hS0, *])); try simp -implicitDefEqProofs only [go_sem, z1, z2, z3, z4, z5, z6, z7, z8, z9, za, zb, zc, ↓reduceIte, List.set_cons_succ, List.set_cons_zero])
        ((refine expG_get 1 (.ref 2 8 0 2) rfl ?_ ?_ (by repeat (first | rfl | refine And.intro rfl ?_)) ?_ ?_); (· decide +kernel); (· decide +kernel); (· (intro S hS0; simp -implicitDefEqProofs only [go_sem, z1, z2, z3, z4, z5, z6, z7, z8, z9, za, zb, zc, ↓reduceIte, hS0, *])); try simp -implicitDefEqProofs only [go_sem, z1, z2, z3, z4, z5, z6, z7, z8, z9, za, zb, zc, ↓reduceIte, List.set_cons_succ, List.set_cons_zero])
        ((refine expG_get 2 (I (at' ec (i : Int)).page) rfl ?_ ?_ (by repeat (first | rfl | refine And.intro rfl ?_)) ?_ ?_); (· decide +kernel); (· decide +kernel); (· (intro S hS0; simp -implicitDefEqProofs only [go_sem, z1, z2, z3, z4, z5, z6, z7, z8, z9, za, zb, zc, ↓reduceIte, hS0, *])); try simp -implicitDefEqProofs only [go_sem, z1, z2, z3, z4, z5, z6, z7, z8, z9, za, zb, zc, ↓reduceIte, List.set_cons_succ, List.set_cons_zero])
        ((refine expG_get 3 (.ref 1 3 (at' ec (i : Int)).page.toNat 0) rfl ?_ ?_ (by repeat (first | rfl | refine And.intro rfl ?_)) ?_ ?_); (· decide +kernel); (· decide +kernel); (· (intro S hS0; simp -implicitDefEqProofs only [go_sem, z1, z2, z3, z4, z5, z6, z7, z8, z9, za, zb, zc, ↓reduceIte, hS0, *])); try simp -implicitDefEqProofs only [go_sem, z1, z2, z3, z4, z5, z6, z7, z8, z9, za, zb, zc, ↓reduceIte, List.set_cons_succ, List.set_cons_zero])
        ((refine expG_get 4 (pA (at' (redoTo ea ec i) (at' ec (i : Int)).page)) rfl ?_ ?_ (by repeat (first | rfl | refine And.intro rfl ?_)) ?_ ?_); (· decide +kernel); (· decide +kernel); (· (intro S hS0; simp -implicitDefEqProofs only [go_sem, z1, z2, z3, z4, z5, z6, z7, z8, z9, za, zb, zc, ↓reduceIte, hS0, *])); try simp -implicitDefEqProofs only [go_sem, z1, z2, z3, z4, z5, z6, z7, z8, z9, za, zb, zc, ↓reduceIte, List.set_cons_succ, List.set_cons_zero])
        ((refine expG_get 5 (rA (at' ec (i : Int))) rfl ?_ ?_ (by repeat (first | rfl | refine And.intro rfl ?_)) ?_ ?_); (· decide +kernel); (· decide +kernel); (· (intro S hS0; simp -implicitDefEqProofs only [go_sem, z1, z2, z3, z4, z5, z6, z7, z8, z9, za, zb, zc, ↓reduceIte, hS0, *])); try simp -implicitDefEqProofs only [go_sem, z1, z2, z3, z4, z5, z6, z7, z8, z9, za, zb, zc, ↓reduceIte, List.set_cons_succ, List.set_cons_zero])
        ((refine expG_get 6 (I i) rfl ?_ ?_ (by repeat (first | rfl | refine And.intro rfl ?_)) ?_ ?_); (· decide +kernel); (· decide +kernel); (· (intro S hS0; simp -implicitDefEqProofs only [go_sem, z1, z2, z3, z4, z5, z6, z7, z8, z9, za, zb, zc, ↓reduceIte, hS0, *])); try simp -implicitDefEqProofs only [go_sem, z1, z2, z3, z4, z5, z6, z7, z8, z9, za, zb, zc, ↓reduceIte, List.set_cons_succ, List.set_cons_zero])
        ((refine expG_get 7 (I ((i + 1 : Nat) : Int)) rfl ?_ ?_ (by repeat (first | rfl | refine And.intro rfl ?_)) ?_ ?_); (· decide +kernel); (· decide +kernel); (· (intro S hS0; simp -implicitDefEqProofs only [go_sem, z1, z2, z3, z4, z5, z6, z7, z8, z9, za, zb, zc, ↓reduceIte, hS0, *])); try simp -implicitDefEqProofs only [go_sem, z1, z2, z3, z4, z5, z6, z7, z8, z9, za, zb, zc, ↓reduceIte, List.set_cons_succ, List.set_cons_zero])
        (repeat' (first | ((with_reducible first | refine gon ?_ ?_ | refine gos ?_ ?_ | refine cdn ?_ ?_ | refine cds ?_ ?_ | refine gpn ?_ ?_ | refine gps ?_ ?_) <;> intro h <;> (try simp only [dt, df, gi, gt] at h) <;> try simp -implicitDefEqProofs only [go_sem, z1, z2, z3, z4, z5, z6, z7, z8, z9, za, zb, zc, ↓reduceIte, *]) | ((with_reducible refine And.intro ?_ ?_); (· first | omega | (simp only [List.length_take]; omega)); try simp -implicitDefEqProofs only [go_sem, z1, z2, z3, z4, z5, z6, z7, z8, z9, za, zb, zc, ↓reduceIte, *]) | first | ((with_reducible refine enter_pu (hdo) ?_ ?_ ?_); (· rfl); (· rfl); try simp -implicitDefEqProofs only [go_sem, z1, z2, z3, z4, z5, z6, z7, z8, z9, za, zb, zc, ↓reduceIte, *]) | ((with_reducible refine expG_one 9 ?_ ?_); (· decide +kernel); try simp -implicitDefEqProofs only [go_sem, z1, z2, z3, z4, z5, z6, z7, z8, z9, za, zb, zc, ↓reduceIte, *]) | ((with_reducible refine expG_one 10 ?_ ?_); (· decide +kernel); try simp -implicitDefEqProofs only [go_sem, z1, z2, z3, z4, z5, z6, z7, z8, z9, za, zb, zc, ↓reduceIte, *]) | ((with_reducible refine expG_one 11 ?_ ?_); (· decide +kernel); try simp -implicitDefEqProofs only [go_sem, z1, z2, z3, z4, z5, z6, z7, z8, z9, za, zb, zc, ↓reduceIte, *]) | ((with_reducible refine expG_one 12 ?_ ?_); (· decide +kernel); try simp -implicitDefEqProofs only [go_sem, z1, z2, z3, z4, z5, z6, z7, z8, z9, za, zb, zc, ↓reduceIte, *]) | ((with_reducible refine expG_one 13 ?_ ?_); (· decide +kernel); try simp -implicitDefEqProofs only [go_sem, z1, z2, z3, z4, z5, z6, z7, z8, z9, za, zb, zc, ↓reduceIte, *]) | ((with_reducible refine expG_one 14 ?_ ?_); (· decide +kernel); try simp -implicitDefEqProofs only [go_sem, z1, z2, z3, z4, z5, z6, z7, z8, z9, za, zb, zc, ↓reduceIte, *]) | ((with_reducible refine expG_end ?_ ?_); (· decide +kernel); try simp -implicitDefEqProofs only [go_sem, z1, z2, z3, z4, z5, z6, z7, z8, z9, za, zb, zc, ↓reduceIte, *]) | ((with_reducible refine expG_two 8 12 ?_ ?_ ?_); (· decide +kernel); all_goals (try simp -implicitDefEqProofs only [go_sem, z1, z2, z3, z4, z5, z6, z7, z8, z9, za, zb, zc, ↓reduceIte, *])) | ((with_reducible refine expG_two 9 12 ?_ ?_ ?_); (· decide +kernel); all_goals (try simp -implicitDefEqProofs only [go_sem, z1, z2, z3, z4, z5, z6, z7, z8, z9, za, zb, zc, ↓reduceIte, *])) | ((with_reducible refine expG_two 10 11 ?_ ?_ ?_); (· decide +kernel); all_goals (try simp -implicitDefEqProofs only [go_sem, z1, z2, z3, z4, z5, z6, z7, z8, z9, za, zb, zc, ↓reduceIte, *])) | ((with_reducible refine expG_two 11 12 ?_ ?_ ?_); (· decide +kernel); all_goals (try simp -implicitDefEqProofs only [go_sem, z1, z2, z3, z4, z5, z6, z7, z8, z9, za, zb, zc, ↓reduceIte, *])) | ((with_reducible refine expG_two 10 12 ?_ ?_ ?_); (· decide +kernel); all_goals (try simp -implicitDefEqProofs only [go_sem, z1, z2, z3, z4, z5, z6, z7, z8, z9, za, zb, zc, ↓reduceIte, *])) | ((with_reducible refine expG_two 11 13 ?_ ?_ ?_); (· decide +kernel); all_goals (try simp -implicitDefEqProofs only [go_sem, z1, z2, z3, z4, z5, z6, z7, z8, z9, za, zb, zc, ↓reduceIte, *])) | ((with_reducible refine expG_three 10 11 12 ?_ ?_ ?_ ?_); (· decide +kernel); all_goals (try simp -implicitDefEqProofs only [go_sem, z1, z2, z3, z4, z5, z6, z7, z8, z9, za, zb, zc, ↓reduceIte, *])) | ((with_reducible refine expG_one 8 ?_ ?_); (· decide +kernel); try simp -implicitDefEqProofs only [go_sem, z1, z2, z3, z4, z5, z6, z7, z8, z9, za, zb, zc, ↓reduceIte, *])))
        all_goals exact rfl
      case k =>
      rcases bb with _ | _
      · simp -implicitDefEqProofs only [go_sem, z1, z2, z3, z4, z5, z6, z7, z8, z9, za, zb, zc, ↓reduceIte, true_and]
        (repeat' (first | ((with_reducible first | refine gon ?_ ?_ | refine gos ?_ ?_ | refine cdn ?_ ?_ | refine cds ?_ ?_ | refine gpn ?_ ?_ | refine gps ?_ ?_) <;> intro h <;> (try simp only [dt, df, gi, gt] at h) <;> try simp -implicitDefEqProofs only [go_sem, z1, z2, z3, z4, z5, z6, z7, z8, z9, za, zb, zc, ↓reduceIte, *]) | ((with_reducible refine And.intro ?_ ?_); (· first | omega | (simp only [List.length_take]; omega)); try simp -implicitDefEqProofs only [go_sem, z1, z2, z3, z4, z5, z6, z7, z8, z9, za, zb, zc, ↓reduceIte, *]) | fail))
        all_goals first | exact fin_pu rfl rfl | skip
        all_goals
          refine ⟨i + 1, by omega, by omega, ?_⟩
          rw [hF (by rintro ⟨h1, h2⟩; unfold chg at h1; simp_all; try omega)]
          refine WkN.trans (wk_tm ?_) (wk_trunc (S := [some ⟨5, _⟩, some ⟨3, _⟩]) (Nat.le_refl _) rfl (by first | rfl | (simp only [sltB, List.all_cons, List.all_nil, slt_p, slt_I, slt_r, Bool.and_true]; done) | (simp only [sltB, List.all_cons, List.all_nil, slt_p, slt_I, slt_r, Bool.and_true]; rfl))); repeat (first | exact WL.nil | (with_reducible refine WL.any _ _ _ ?_) | (with_reducible refine WL.same _ _ _ ?_) | (refine WL.eq _ _ _ _ rfl ?_))
      · simp -implicitDefEqProofs only [go_sem, z1, z2, z3, z4, z5, z6, z7, z8, z9, za, zb, zc, ↓reduceIte, true_and]
        (repeat' (first | ((with_reducible first | refine gon ?_ ?_ | refine gos ?_ ?_ | refine cdn ?_ ?_ | refine cds ?_ ?_ | refine gpn ?_ ?_ | refine gps ?_ ?_) <;> intro h <;> (try simp only [dt, df, gi, gt] at h) <;> try simp -implicitDefEqProofs only [go_sem, z1, z2, z3, z4, z5, z6, z7, z8, z9, za, zb, zc, ↓reduceIte, *]) | ((with_reducible refine And.intro ?_ ?_); (· first | omega | (simp only [List.length_take]; omega)); try simp -implicitDefEqProofs only [go_sem, z1, z2, z3, z4, z5, z6, z7, z8, z9, za, zb, zc, ↓reduceIte, *]) | fail))
        refine ⟨i + 1, by omega, by omega, ?_⟩
        rw [hT rfl]
        refine WkN.trans (wk_tm ?_) (wk_trunc (S := [some ⟨5, _⟩, some ⟨3, _⟩]) (Nat.le_refl _) rfl (by first | rfl | (simp only [sltB, List.all_cons, List.all_nil, slt_p, slt_I, slt_r, Bool.and_true]; done) | (simp only [sltB, List.all_cons, List.all_nil, slt_p, slt_I, slt_r, Bool.and_true]; rfl))); repeat (first | exact WL.nil | (with_reducible refine WL.any _ _ _ ?_) | (with_reducible refine WL.same _ _ _ ?_) | (refine WL.eq _ _ _ _ rfl ?_))
    · have hl1 : ¬ (i : Int) < (ec.length : Int) := by omega
      have e : i = ec.length := by omega
      subst e
      have c6 := ltPages_fn R (redoTo ea ec ec.length) hrl.1 hrl.2
      rw [hRe] at c6
      clear hRe
      simp -implicitDefEqProofs only [go_sem, z1, z2, z3, z4, z5, z6, z7, z8, z9, za, zb, zc, ↓reduceIte, hl1]
      have hd6 := (redoTo_sz hsz hwf ec.length (Nat.le_refl _)).len
      (repeat' (first | ((with_reducible first | refine gon ?_ ?_ | refine gos ?_ ?_ | refine cdn ?_ ?_ | refine cds ?_ ?_ | refine gpn ?_ ?_ | refine gps ?_ ?_) <;> intro h <;> (try simp only [dt, df, gi, gt] at h) <;> try simp -implicitDefEqProofs only [go_sem, z1, z2, z3, z4, z5, z6, z7, z8, z9, za, zb, zc, ↓reduceIte, *]) | ((with_reducible refine And.intro ?_ ?_); (· first | omega | (simp only [List.length_take]; omega)); try simp -implicitDefEqProofs only [go_sem, z1, z2, z3, z4, z5, z6, z7, z8, z9, za, zb, zc, ↓reduceIte, *]) | ((with_reducible refine enter_own c6 (.cons _ _ _ _ (arg_same rfl) (.cons _ _ _ _ (.of1 _ _ (.of0 _ _ (arg0_p rfl hd6.symm))) .nil)) rfl rfl ?_); try simp -implicitDefEqProofs only [go_sem, z1, z2, z3, z4, z5, z6, z7, z8, z9, za, zb, zc, ↓reduceIte, *])))
      all_goals exact fin_pu rfl rfl
end Go.Proofs.YtihplpffmdeldaaGreat.Am
end
section
set_option linter.unusedVariables false
set_option linter.unusedSimpArgs false
set_option maxRecDepth 100000
set_option maxHeartbeats 8000000
namespace Go.Proofs.YtihplpffmdeldaaGreat.Am
open Go Go.RowKit Go.Proofs
open Nat renaming reduceAdd → z1, reduceSub → z2, reduceMul → z3, reduceLT → z4, reduceLeDiff → z5, reduceEqDiff → z6
open Int renaming reduceBEq → z7, reduceBNe → z8, reduceNeg → z9, reduceSub → za, reduceLE → zb, reduceLT → zc
attribute [local congr] opsP_congr codeP_congr AWP_congr afterR_congr preP_congr afterPre_congr gPre_congr gOps_congr condP_congr stepE_congr
attribute [local go_sem] ty_int ty_bool ty_str ty_u8 ty_ints ty_bytes ty_page ty_pages ty_lpage ty_lpages ty_rec ty_recs ty_lrec ty_lrecs ty_eng ty_leng
attribute [local go_sem] true_and and_true beq_true' beq_false' toNat_cast Int.natCast_nonneg Bool.not_not Bool.not_true Bool.not_false decide_true decide_false Bool.or_false Bool.false_or Bool.or_true Bool.true_or Bool.and_false Bool.false_and Nat.zero_add Int.toNat_of_nonneg wrap_succ wrap_m1 wrap_nat succ_m1 cast0 succ_pos' succ_ne' succ_bne' ge_iff_le gt_iff_lt if_true if_false
attribute [local go_sem] slt_r slt_I slt_p ty_rd ty_ev ty_evs
def rowC (tx : Int) (p : Pg) : Nat → Int
  | 0 => 0
  | j + 1 => rowC tx p j + if p.owner = tx ∧ at' p.vals (j : Int) ≠ 0 then 1 else 0
def rowS (tx : Int) (p : Pg) : Nat → Int
  | 0 => 0
  | j + 1 => rowS tx p j + if p.owner = tx ∧ at' p.vals (j : Int) ≠ 0 then at' p.vals (j : Int) else 0
def tabC (tx : Int) (ps : List Pg) : Nat → Int
  | 0 => 0
  | k + 1 => tabC tx ps k + rowC tx (at' ps (k : Int)) 3
def tabS (tx : Int) (ps : List Pg) : Nat → Int
  | 0 => 0
  | k + 1 => tabS tx ps k + rowS tx (at' ps (k : Int)) 3
def Pg.v9 (p : Pg) : Prop := ∀ j : Nat, j < 3 → 0 ≤ at' p.vals (j : Int) ∧ at' p.vals (j : Int) ≤ 9
theorem rowC_b (tx : Int) (p : Pg) : ∀ j, 0 ≤ rowC tx p j ∧ rowC tx p j ≤ j
  | 0 => ⟨Int.le_refl _, Int.le_refl _⟩
  | j + 1 => by
    have := rowC_b tx p j
    unfold rowC
    split <;> omega
theorem rowS_b (tx : Int) {p : Pg} (h : p.v9) : ∀ j : Nat, j ≤ 3 → 0 ≤ rowS tx p j ∧ rowS tx p j ≤ 9 * (j : Int)
  | 0, _ => ⟨Int.le_refl _, Int.le_refl _⟩
  | j + 1, hj => by
    have := rowS_b tx h j (by omega)
    have := h j (by omega)
    unfold rowS
    split <;> omega
theorem tabC_b (tx : Int) (ps : List Pg) : ∀ k : Nat, 0 ≤ tabC tx ps k ∧ tabC tx ps k ≤ 3 * (k : Int)
  | 0 => ⟨Int.le_refl _, Int.le_refl _⟩
  | k + 1 => by
    have := tabC_b tx ps k
    have := rowC_b tx (at' ps (k : Int)) 3
    unfold tabC
    omega
theorem tabS_b (tx : Int) {ps : List Pg} (h : ∀ k : Nat, k < 5 → (at' ps (k : Int)).v9) : ∀ k : Nat, k ≤ 5 → 0 ≤ tabS tx ps k ∧ tabS tx ps k ≤ 27 * (k : Int)
  | 0, _ => ⟨Int.le_refl _, Int.le_refl _⟩
  | k + 1, hk => by
    have := tabS_b tx h k (by omega)
    have := rowS_b tx (h k (by omega)) 3 (Nat.le_refl _)
    unfold tabS
    omega
theorem rowC_ne {tx : Int} {p : Pg} (h : p.owner ≠ tx) : ∀ j, rowC tx p j = 0
  | 0 => rfl
  | j + 1 => by unfold rowC; rw [rowC_ne h j, if_neg (fun q => h q.1)]; rfl
theorem rowS_ne {tx : Int} {p : Pg} (h : p.owner ≠ tx) : ∀ j, rowS tx p j = 0
  | 0 => rfl
  | j + 1 => by unfold rowS; rw [rowS_ne h j, if_neg (fun q => h q.1)]; rfl
def secC (tx : Int) (ps : List Pg) (k j : Nat) : Int := tabC tx ps k + rowC tx (at' ps (k : Int)) j
def secS (tx : Int) (ps : List Pg) (k j : Nat) : Int := tabS tx ps k + rowS tx (at' ps (k : Int)) j
theorem secC_t {tx : Int} {ps : List Pg} {k j : Nat} (h : (at' ps (k : Int)).owner = tx ∧ at' (at' ps (k : Int)).vals (j : Int) ≠ 0) : secC tx ps k (j + 1) = secC tx ps k j + 1 := by
  unfold secC; rw [rowC, if_pos h]; omega
theorem secS_t {tx : Int} {ps : List Pg} {k j : Nat} (h : (at' ps (k : Int)).owner = tx ∧ at' (at' ps (k : Int)).vals (j : Int) ≠ 0) : secS tx ps k (j + 1) = secS tx ps k j + at' (at' ps (k : Int)).vals (j : Int) := by
  unfold secS; rw [rowS, if_pos h]; omega
theorem secC_f {tx : Int} {ps : List Pg} {k j : Nat} (h : ¬ ((at' ps (k : Int)).owner = tx ∧ at' (at' ps (k : Int)).vals (j : Int) ≠ 0)) : secC tx ps k (j + 1) = secC tx ps k j := by
  unfold secC; rw [rowC, if_neg h]; omega
theorem secS_f {tx : Int} {ps : List Pg} {k j : Nat} (h : ¬ ((at' ps (k : Int)).owner = tx ∧ at' (at' ps (k : Int)).vals (j : Int) ≠ 0)) : secS tx ps k (j + 1) = secS tx ps k j := by
  unfold secS; rw [rowS, if_neg h]; omega
theorem secC_b (tx : Int) (ps : List Pg) {k j : Nat} (hk : k ≤ 5) (hj : j ≤ 3) : 0 ≤ secC tx ps k j ∧ secC tx ps k j ≤ 18 := by
  have := tabC_b tx ps k
  have := rowC_b tx (at' ps (k : Int)) j
  unfold secC
  omega
theorem secS_b (tx : Int) {ps : List Pg} (h : ∀ k : Nat, k < 5 → (at' ps (k : Int)).v9) {k j : Nat} (hk : k < 5) (hj : j ≤ 3) : 0 ≤ secS tx ps k j ∧ secS tx ps k j ≤ 162 := by
  have := tabS_b tx h k (by omega)
  have := rowS_b tx (h k hk) j hj
  unfold secS
  omega
theorem secC_0 (tx : Int) (ps : List Pg) (k : Nat) : secC tx ps k 0 = tabC tx ps k := by unfold secC rowC; omega
theorem secS_0 (tx : Int) (ps : List Pg) (k : Nat) : secS tx ps k 0 = tabS tx ps k := by unfold secS rowS; omega
theorem secC_3 (tx : Int) (ps : List Pg) (k : Nat) : tabC tx ps (k + 1) = secC tx ps k 3 := rfl
theorem secS_3 (tx : Int) (ps : List Pg) (k : Nat) : tabS tx ps (k + 1) = secS tx ps k 3 := rfl
theorem secC_ne {tx : Int} {ps : List Pg} {k : Nat} (h : (at' ps (k : Int)).owner ≠ tx) (j : Nat) : tabC tx ps (k + 1) = secC tx ps k j := by
  rw [secC_3]; unfold secC; rw [rowC_ne h, rowC_ne h]
theorem secS_ne {tx : Int} {ps : List Pg} {k : Nat} (h : (at' ps (k : Int)).owner ≠ tx) (j : Nat) : tabS tx ps (k + 1) = secS tx ps k j := by
  rw [secS_3]; unfold secS; rw [rowS_ne h, rowS_ne h]
theorem v9_of {ps : List Pg} (h : pgsOk ps = true) : ∀ k : Nat, k < 5 → (at' ps (k : Int)).v9 := fun k hk j hj => Pg.ok_val ((pgsOk_iff.1 h).2 k hk) j hj
def sumC (e : Eng) (tx : Int) : Int := if okE e = true ∧ isIn tx 1 3 = true then tabC tx e.mem 5 else 0
def sumS (e : Eng) (tx : Int) : Int := if okE e = true ∧ isIn tx 1 3 = true then tabS tx e.mem 5 else 0
theorem rd_ii {S : Store} {a b : Int} : RdT [] S 0 (.tup [I a, I b]) (.tup [I a, I b]) := .tup _ _ (.cons _ _ _ _ (.of _ _ (.rn _ _ (.same _ rfl))) (.cons _ _ _ _ (.of _ _ (.rn _ _ (.same _ rfl))) .nil))
theorem EngineSumS_fn (e : Eng) (tx : Int) (h : e.small) : Fn1 Tryz.prog 44 [eA e, I tx] (.tup [I (sumC e tx), I (sumS e tx)]) := by
  have c1 := okS e h
  have c2 := l6In_fn tx 1 3
  refine fn1_of Tryz.func44 rfl rfl ?_
  unfold sumC sumS
  rcases hok : okE e with _ | _
  · rw [if_neg (by simp), if_neg (by simp)]
    rw [hok] at c1
    simp -implicitDefEqProofs only [go_sem, z1, z2, z3, z4, z5, z6, z7, z8, z9, za, zb, zc, ↓reduceIte, Tryz.f44]
    (repeat' (first | ((with_reducible first | refine gon ?_ ?_ | refine gos ?_ ?_ | refine cdn ?_ ?_ | refine cds ?_ ?_ | refine gpn ?_ ?_ | refine gps ?_ ?_) <;> intro h <;> (try simp only [dt, df, gi, gt] at h) <;> try simp -implicitDefEqProofs only [go_sem, z1, z2, z3, z4, z5, z6, z7, z8, z9, za, zb, zc, ↓reduceIte, *]) | ((with_reducible refine And.intro ?_ ?_); (· first | omega | (simp only [List.length_take]; omega)); try simp -implicitDefEqProofs only [go_sem, z1, z2, z3, z4, z5, z6, z7, z8, z9, za, zb, zc, ↓reduceIte, *]) | first | ((with_reducible refine enter_pu (c1) ?_ ?_ ?_); (· rfl); (· rfl); try simp -implicitDefEqProofs only [go_sem, z1, z2, z3, z4, z5, z6, z7, z8, z9, za, zb, zc, ↓reduceIte, *]) | ((with_reducible refine enter_pu (c2) ?_ ?_ ?_); (· rfl); (· rfl); try simp -implicitDefEqProofs only [go_sem, z1, z2, z3, z4, z5, z6, z7, z8, z9, za, zb, zc, ↓reduceIte, *])))
    exact fin_drawn rd_ii ⟨⟨rfl, rfl⟩, rfl⟩
  rw [hok] at c1
  rcases hin : isIn tx 1 3 with _ | _
  · rw [if_neg (by simp), if_neg (by simp)]
    rw [hin] at c2
    simp -implicitDefEqProofs only [go_sem, z1, z2, z3, z4, z5, z6, z7, z8, z9, za, zb, zc, ↓reduceIte, Tryz.f44]
    (repeat' (first | ((with_reducible first | refine gon ?_ ?_ | refine gos ?_ ?_ | refine cdn ?_ ?_ | refine cds ?_ ?_ | refine gpn ?_ ?_ | refine gps ?_ ?_) <;> intro h <;> (try simp only [dt, df, gi, gt] at h) <;> try simp -implicitDefEqProofs only [go_sem, z1, z2, z3, z4, z5, z6, z7, z8, z9, za, zb, zc, ↓reduceIte, *]) | ((with_reducible refine And.intro ?_ ?_); (· first | omega | (simp only [List.length_take]; omega)); try simp -implicitDefEqProofs only [go_sem, z1, z2, z3, z4, z5, z6, z7, z8, z9, za, zb, zc, ↓reduceIte, *]) | first | ((with_reducible refine enter_pu (c1) ?_ ?_ ?_); (· rfl); (· rfl); try simp -implicitDefEqProofs only [go_sem, z1, z2, z3, z4, z5, z6, z7, z8, z9, za, zb, zc, ↓reduceIte, *]) | ((with_reducible refine enter_pu (c2) ?_ ?_ ?_); (· rfl); (· rfl); try simp -implicitDefEqProofs only [go_sem, z1, z2, z3, z4, z5, z6, z7, z8, z9, za, zb, zc, ↓reduceIte, *])))
    exact fin_drawn rd_ii ⟨⟨rfl, rfl⟩, rfl⟩
  rw [hin] at c2
  rw [if_pos ⟨rfl, rfl⟩, if_pos ⟨rfl, rfl⟩]
  have hmk : pgsOk e.mem = true := (okE_iff.1 hok).mem
  have h9 := v9_of hmk
  have hlen : 5 ≤ e.mem.length := by have := (pgsOk_iff.1 hmk).1; omega
  have hvl : ∀ k : Nat, k < 5 → 3 ≤ (at' e.mem (k : Int)).vals.length := fun k hk => by have := Pg.ok_len ((pgsOk_iff.1 hmk).2 k hk); omega
  clear hmk hok hin
  simp -implicitDefEqProofs only [go_sem, z1, z2, z3, z4, z5, z6, z7, z8, z9, za, zb, zc, ↓reduceIte, Tryz.f44]
  (repeat' (first | ((with_reducible first | refine gon ?_ ?_ | refine gos ?_ ?_ | refine cdn ?_ ?_ | refine cds ?_ ?_ | refine gpn ?_ ?_ | refine gps ?_ ?_) <;> intro h <;> (try simp only [dt, df, gi, gt] at h) <;> try simp -implicitDefEqProofs only [go_sem, z1, z2, z3, z4, z5, z6, z7, z8, z9, za, zb, zc, ↓reduceIte, *]) | ((with_reducible refine And.intro ?_ ?_); (· first | omega | (simp only [List.length_take]; omega)); try simp -implicitDefEqProofs only [go_sem, z1, z2, z3, z4, z5, z6, z7, z8, z9, za, zb, zc, ↓reduceIte, *]) | first | ((with_reducible refine enter_pu (c1) ?_ ?_ ?_); (· rfl); (· rfl); try simp -implicitDefEqProofs only [go_sem, z1, z2, z3, z4, z5, z6, z7, z8, z9, za, zb, zc, ↓reduceIte, *]) | ((with_reducible refine enter_pu (c2) ?_ ?_ ?_); (· rfl); (· rfl); try simp -implicitDefEqProofs only [go_sem, z1, z2, z3, z4, z5, z6, z7, z8, z9, za, zb, zc, ↓reduceIte, *])))
  clear c1 c2
  refine cp_loop (fun k : Nat => ⟨(.any :: I tx :: .ref 0 5 0 0 :: .any :: I 0 :: I 0 :: I (tabC tx e.mem k) :: I (tabS tx e.mem k) :: I (k : Int) :: .any :: .any :: .any :: .any :: .any :: .any :: .any :: .any :: .any :: .any :: .any :: .any :: .any :: .any :: .any :: .any :: .any :: .any :: .any :: .any :: .any :: .any :: .any :: .any :: .any :: .any :: .any :: .any :: .any :: .any :: .any :: .any :: .any :: .any :: .any :: .any :: .any :: .any :: .any :: .any :: .any :: .any :: .any :: .any :: .any :: .any :: .any :: .any :: .any :: .any :: .any :: .any :: []), [some ⟨5, [eA e]⟩], []⟩) (fun k => k ≤ 5) (fun k => 5 - k) 0 ?_ ?_ ?_
  · simp
  · refine wk_tm ?_; repeat (first | exact WL.nil | (with_reducible refine WL.any _ _ _ ?_) | (with_reducible refine WL.same _ _ _ ?_) | (refine WL.eq _ _ _ _ rfl ?_))
  · rintro k hk
    have hkb : k < 4611686018427387904 := by omega
    by_cases hkl : k < 5
    · have hl1 : (k : Int) < 5 := by omega
      have hv3 := hvl k hkl
      have hkm : k < e.mem.length := by omega
      simp -implicitDefEqProofs only [go_sem, z1, z2, z3, z4, z5, z6, z7, z8, z9, za, zb, zc, ↓reduceIte, hl1]
      refine cp_loop (fun j : Nat => ⟨(.any :: I tx :: .ref 0 5 0 0 :: .any :: I 0 :: I 0 :: I (secC tx e.mem k j) :: I (secS tx e.mem k j) :: I (k : Int) :: I (j : Int) :: .any :: .any :: .any :: .any :: .any :: .any :: .any :: .any :: .any :: .any :: .any :: .any :: .any :: .any :: .any :: .any :: .any :: .any :: .any :: .any :: .any :: .any :: .any :: .any :: .any :: .any :: .any :: .any :: .any :: .any :: .any :: .any :: .any :: .any :: .any :: .any :: .any :: .any :: .any :: .any :: .any :: .any :: .any :: .any :: .any :: .any :: .any :: .any :: .any :: .any :: .any :: []), [some ⟨5, [eA e]⟩], []⟩) (fun j => j ≤ 3) (fun j => 3 - j) 0 ?_ ?_ ?_
      · simp
      · rw [secC_0, secS_0]
        refine wk_tm ?_; repeat (first | exact WL.nil | (with_reducible refine WL.any _ _ _ ?_) | (with_reducible refine WL.same _ _ _ ?_) | (refine WL.eq _ _ _ _ rfl ?_))
      · rintro j hj
        have hjb : j < 4611686018427387904 := by omega
        have b1 := secC_b tx e.mem (k := k) (j := j) (by omega) hj
        have b2 := secS_b tx h9 hkl hj
        rcases how : (at' e.mem (k : Int)).owner == tx with _ | _
        · have hne : (at' e.mem (k : Int)).owner ≠ tx := fun h => by rw [h] at how; simp at how
          simp -implicitDefEqProofs only [go_sem, z1, z2, z3, z4, z5, z6, z7, z8, z9, za, zb, zc, ↓reduceIte, true_and]
          (repeat' (first | ((with_reducible first | refine gon ?_ ?_ | refine gos ?_ ?_ | refine cdn ?_ ?_ | refine cds ?_ ?_ | refine gpn ?_ ?_ | refine gps ?_ ?_) <;> intro h <;> (try simp only [dt, df, gi, gt] at h) <;> try simp -implicitDefEqProofs only [go_sem, z1, z2, z3, z4, z5, z6, z7, z8, z9, za, zb, zc, ↓reduceIte, *]) | ((with_reducible refine And.intro ?_ ?_); (· first | omega | (simp only [List.length_take]; omega)); try simp -implicitDefEqProofs only [go_sem, z1, z2, z3, z4, z5, z6, z7, z8, z9, za, zb, zc, ↓reduceIte, *]) | fail))
          refine ⟨k + 1, by omega, by omega, ?_⟩
          rw [secC_ne hne j, secS_ne hne j]
          refine wk_tm ?_; repeat (first | exact WL.nil | (with_reducible refine WL.any _ _ _ ?_) | (with_reducible refine WL.same _ _ _ ?_) | (refine WL.eq _ _ _ _ rfl ?_))
        · have heq : (at' e.mem (k : Int)).owner = tx := by simpa using how
          by_cases hjl : j < 3
          · have hl2 : (j : Int) < 3 := by omega
            have hv := h9 k hkl j hjl
            have hw1 : IntKind.i64.wrap (secC tx e.mem k j + 1) = secC tx e.mem k j + 1 := wrap_ok (by omega) (by omega)
            have hw2 : IntKind.i64.wrap (secS tx e.mem k j + at' (at' e.mem (k : Int)).vals (j : Int)) = secS tx e.mem k j + at' (at' e.mem (k : Int)).vals (j : Int) := wrap_ok (by omega) (by omega)
            clear heq
            simp -implicitDefEqProofs only [go_sem, z1, z2, z3, z4, z5, z6, z7, z8, z9, za, zb, zc, ↓reduceIte, hl2]
            (repeat' (first | ((with_reducible first | refine gon ?_ ?_ | refine gos ?_ ?_ | refine cdn ?_ ?_ | refine cds ?_ ?_ | refine gpn ?_ ?_ | refine gps ?_ ?_) <;> intro h <;> (try simp only [dt, df, gi, gt] at h) <;> try simp -implicitDefEqProofs only [go_sem, z1, z2, z3, z4, z5, z6, z7, z8, z9, za, zb, zc, ↓reduceIte, *]) | ((with_reducible refine And.intro ?_ ?_); (· first | omega | (simp only [List.length_take]; omega)); try simp -implicitDefEqProofs only [go_sem, z1, z2, z3, z4, z5, z6, z7, z8, z9, za, zb, zc, ↓reduceIte, *]) | fail))
            · have hv0 : (at' e.mem (k : Int)).owner = tx ∧ at' (at' e.mem (k : Int)).vals (j : Int) ≠ 0 := ⟨by simpa using how, by simp_all⟩
              refine ⟨j + 1, by omega, by omega, ?_⟩
              rw [secC_t hv0, secS_t hv0]
              refine wk_tm ?_; repeat (first | exact WL.nil | (with_reducible refine WL.any _ _ _ ?_) | (with_reducible refine WL.same _ _ _ ?_) | (refine WL.eq _ _ _ _ rfl ?_))
            · have hv0 : ¬ ((at' e.mem (k : Int)).owner = tx ∧ at' (at' e.mem (k : Int)).vals (j : Int) ≠ 0) := fun q => by simp_all
              refine ⟨j + 1, by omega, by omega, ?_⟩
              rw [secC_f hv0, secS_f hv0]
              refine wk_tm ?_; repeat (first | exact WL.nil | (with_reducible refine WL.any _ _ _ ?_) | (with_reducible refine WL.same _ _ _ ?_) | (refine WL.eq _ _ _ _ rfl ?_))
          · have hl2 : ¬ (j : Int) < 3 := by omega
            clear heq
            simp -implicitDefEqProofs only [go_sem, z1, z2, z3, z4, z5, z6, z7, z8, z9, za, zb, zc, ↓reduceIte, hl2]
            (repeat' (first | ((with_reducible first | refine gon ?_ ?_ | refine gos ?_ ?_ | refine cdn ?_ ?_ | refine cds ?_ ?_ | refine gpn ?_ ?_ | refine gps ?_ ?_) <;> intro h <;> (try simp only [dt, df, gi, gt] at h) <;> try simp -implicitDefEqProofs only [go_sem, z1, z2, z3, z4, z5, z6, z7, z8, z9, za, zb, zc, ↓reduceIte, *]) | ((with_reducible refine And.intro ?_ ?_); (· first | omega | (simp only [List.length_take]; omega)); try simp -implicitDefEqProofs only [go_sem, z1, z2, z3, z4, z5, z6, z7, z8, z9, za, zb, zc, ↓reduceIte, *]) | fail))
            refine ⟨k + 1, by omega, by omega, ?_⟩
            rw [secC_3, secS_3, show 3 = j by omega]
            refine wk_tm ?_; repeat (first | exact WL.nil | (with_reducible refine WL.any _ _ _ ?_) | (with_reducible refine WL.same _ _ _ ?_) | (refine WL.eq _ _ _ _ rfl ?_))
    · have hl1 : ¬ (k : Int) < 5 := by omega
      have e5 : k = 5 := by omega
      subst e5
      simp -implicitDefEqProofs only [go_sem, z1, z2, z3, z4, z5, z6, z7, z8, z9, za, zb, zc, ↓reduceIte, hl1]
      exact fin_drawn rd_ii ⟨⟨rfl, rfl⟩, rfl⟩
theorem EngineSumI_fn (e : Eng) (tx : Int) (h : e.small) : Fn1 Tryz.prog 45 [eA e, I tx] (.tup [I (sumC e tx), I (sumS e tx)]) := by
  have c1 := okI e h
  have c2 := in_fn tx 1 3
  refine fn1_of Tryz.func45 rfl rfl ?_
  unfold sumC sumS
  rcases hok : okE e with _ | _
  · rw [if_neg (by simp), if_neg (by simp)]
    rw [hok] at c1
    simp -implicitDefEqProofs only [go_sem, z1, z2, z3, z4, z5, z6, z7, z8, z9, za, zb, zc, ↓reduceIte, Tryz.f45]
    (repeat' (first | ((with_reducible first | refine gon ?_ ?_ | refine gos ?_ ?_ | refine cdn ?_ ?_ | refine cds ?_ ?_ | refine gpn ?_ ?_ | refine gps ?_ ?_) <;> intro h <;> (try simp only [dt, df, gi, gt] at h) <;> try simp -implicitDefEqProofs only [go_sem, z1, z2, z3, z4, z5, z6, z7, z8, z9, za, zb, zc, ↓reduceIte, *]) | ((with_reducible refine And.intro ?_ ?_); (· first | omega | (simp only [List.length_take]; omega)); try simp -implicitDefEqProofs only [go_sem, z1, z2, z3, z4, z5, z6, z7, z8, z9, za, zb, zc, ↓reduceIte, *]) | first | ((with_reducible refine enter_pu (c1) ?_ ?_ ?_); (· rfl); (· rfl); try simp -implicitDefEqProofs only [go_sem, z1, z2, z3, z4, z5, z6, z7, z8, z9, za, zb, zc, ↓reduceIte, *]) | ((with_reducible refine enter_pu (c2) ?_ ?_ ?_); (· rfl); (· rfl); try simp -implicitDefEqProofs only [go_sem, z1, z2, z3, z4, z5, z6, z7, z8, z9, za, zb, zc, ↓reduceIte, *])))
    exact fin_drawn rd_ii ⟨⟨rfl, rfl⟩, rfl⟩
  rw [hok] at c1
  rcases hin : isIn tx 1 3 with _ | _
  · rw [if_neg (by simp), if_neg (by simp)]
    rw [hin] at c2
    simp -implicitDefEqProofs only [go_sem, z1, z2, z3, z4, z5, z6, z7, z8, z9, za, zb, zc, ↓reduceIte, Tryz.f45]
    (repeat' (first | ((with_reducible first | refine gon ?_ ?_ | refine gos ?_ ?_ | refine cdn ?_ ?_ | refine cds ?_ ?_ | refine gpn ?_ ?_ | refine gps ?_ ?_) <;> intro h <;> (try simp only [dt, df, gi, gt] at h) <;> try simp -implicitDefEqProofs only [go_sem, z1, z2, z3, z4, z5, z6, z7, z8, z9, za, zb, zc, ↓reduceIte, *]) | ((with_reducible refine And.intro ?_ ?_); (· first | omega | (simp only [List.length_take]; omega)); try simp -implicitDefEqProofs only [go_sem, z1, z2, z3, z4, z5, z6, z7, z8, z9, za, zb, zc, ↓reduceIte, *]) | first | ((with_reducible refine enter_pu (c1) ?_ ?_ ?_); (· rfl); (· rfl); try simp -implicitDefEqProofs only [go_sem, z1, z2, z3, z4, z5, z6, z7, z8, z9, za, zb, zc, ↓reduceIte, *]) | ((with_reducible refine enter_pu (c2) ?_ ?_ ?_); (· rfl); (· rfl); try simp -implicitDefEqProofs only [go_sem, z1, z2, z3, z4, z5, z6, z7, z8, z9, za, zb, zc, ↓reduceIte, *])))
    exact fin_drawn rd_ii ⟨⟨rfl, rfl⟩, rfl⟩
  rw [hin] at c2
  rw [if_pos ⟨rfl, rfl⟩, if_pos ⟨rfl, rfl⟩]
  have hmk : pgsOk e.mem = true := (okE_iff.1 hok).mem
  have h9 := v9_of hmk
  have hlen : 5 ≤ e.mem.length ∧ e.mem.length ≤ 5 := by have := (pgsOk_iff.1 hmk).1; omega
  have hvl : ∀ k : Nat, k < 5 → 3 ≤ (at' e.mem (k : Int)).vals.length ∧ (at' e.mem (k : Int)).vals.length ≤ 3 := fun k hk => by have := Pg.ok_len ((pgsOk_iff.1 hmk).2 k hk); omega
  clear hmk hok hin
  simp -implicitDefEqProofs only [go_sem, z1, z2, z3, z4, z5, z6, z7, z8, z9, za, zb, zc, ↓reduceIte, Tryz.f45]
  (repeat' (first | ((with_reducible first | refine gon ?_ ?_ | refine gos ?_ ?_ | refine cdn ?_ ?_ | refine cds ?_ ?_ | refine gpn ?_ ?_ | refine gps ?_ ?_) <;> intro h <;> (try simp only [dt, df, gi, gt] at h) <;> try simp -implicitDefEqProofs only [go_sem, z1, z2, z3, z4, z5, z6, z7, z8, z9, za, zb, zc, ↓reduceIte, *]) | ((with_reducible refine And.intro ?_ ?_); (· first | omega | (simp only [List.length_take]; omega)); try simp -implicitDefEqProofs only [go_sem, z1, z2, z3, z4, z5, z6, z7, z8, z9, za, zb, zc, ↓reduceIte, *]) | first | ((with_reducible refine enter_pu (c1) ?_ ?_ ?_); (· rfl); (· rfl); try simp -implicitDefEqProofs only [go_sem, z1, z2, z3, z4, z5, z6, z7, z8, z9, za, zb, zc, ↓reduceIte, *]) | ((with_reducible refine enter_pu (c2) ?_ ?_ ?_); (· rfl); (· rfl); try simp -implicitDefEqProofs only [go_sem, z1, z2, z3, z4, z5, z6, z7, z8, z9, za, zb, zc, ↓reduceIte, *])))
  clear c1 c2
  refine cp_loop (fun k : Nat => ⟨(.any :: I tx :: .ref 0 5 0 0 :: .any :: I 0 :: I 0 :: I (tabC tx e.mem k) :: I (tabS tx e.mem k) :: .any :: .any :: .any :: .any :: .any :: .any :: .any :: .any :: .any :: .any :: .any :: .any :: .any :: pgs e.mem :: I (e.mem.length : Int) :: I (k : Int) :: .any :: .any :: .any :: .any :: .any :: .any :: .any :: .any :: .any :: .any :: .any :: .any :: .any :: .any :: .any :: .any :: .any :: .any :: .any :: .any :: .any :: .any :: .any :: .any :: .any :: .any :: .any :: []), [some ⟨5, [eA e]⟩], []⟩) (fun k => k ≤ 5) (fun k => 5 - k) 0 ?_ ?_ ?_
  · simp
  · refine wk_tm ?_; repeat (first | exact WL.nil | (with_reducible refine WL.any _ _ _ ?_) | (with_reducible refine WL.same _ _ _ ?_) | (refine WL.eq _ _ _ _ rfl ?_))
  · rintro k hk
    have hkb : k < 4611686018427387904 := by omega
    by_cases hkl : k < 5
    · have hl1 : (k : Int) < (e.mem.length : Int) := by omega
      have hv3 := hvl k hkl
      simp -implicitDefEqProofs only [go_sem, z1, z2, z3, z4, z5, z6, z7, z8, z9, za, zb, zc, ↓reduceIte, hl1]
      (repeat' (first | ((with_reducible first | refine gon ?_ ?_ | refine gos ?_ ?_ | refine cdn ?_ ?_ | refine cds ?_ ?_ | refine gpn ?_ ?_ | refine gps ?_ ?_) <;> intro h <;> (try simp only [dt, df, gi, gt] at h) <;> try simp -implicitDefEqProofs only [go_sem, z1, z2, z3, z4, z5, z6, z7, z8, z9, za, zb, zc, ↓reduceIte, *]) | ((with_reducible refine And.intro ?_ ?_); (· first | omega | (simp only [List.length_take]; omega)); try simp -implicitDefEqProofs only [go_sem, z1, z2, z3, z4, z5, z6, z7, z8, z9, za, zb, zc, ↓reduceIte, *]) | fail))
      refine cp_loop (fun j : Nat => ⟨(.any :: I tx :: .ref 0 5 0 0 :: .any :: I 0 :: I 0 :: I (secC tx e.mem k j) :: I (secS tx e.mem k j) :: .any :: .ref 1 3 0 0 :: .any :: .any :: .any :: .any :: .any :: .any :: .any :: .any :: .any :: .any :: .any :: pgs e.mem :: I (e.mem.length : Int) :: I (k : Int) :: .any :: .any :: .any :: .any :: ints (at' e.mem (k : Int)).vals :: I ((at' e.mem (k : Int)).vals.length : Int) :: I (j : Int) :: .any :: .any :: .any :: .any :: .any :: .any :: .any :: .any :: .any :: .any :: .any :: .any :: .any :: .any :: .any :: .any :: .any :: .any :: .any :: .any :: []), [some ⟨5, [eA e]⟩, some ⟨3, [pA (at' e.mem (k : Int))]⟩], []⟩) (fun j => j ≤ 3) (fun j => 3 - j) 0 ?_ ?_ ?_
      · simp
      · rw [secC_0, secS_0]
        refine wk_tm ?_; repeat (first | exact WL.nil | (with_reducible refine WL.any _ _ _ ?_) | (with_reducible refine WL.same _ _ _ ?_) | (refine WL.eq _ _ _ _ rfl ?_))
      · rintro j hj
        have hjb : j < 4611686018427387904 := by omega
        have b1 := secC_b tx e.mem (k := k) (j := j) (by omega) hj
        have b2 := secS_b tx h9 hkl hj
        by_cases hjl : j < 3
        · have hl2 : (j : Int) < ((at' e.mem (k : Int)).vals.length : Int) := by omega
          have hv := h9 k hkl j hjl
          have hw1 : IntKind.i64.wrap (secC tx e.mem k j + 1) = secC tx e.mem k j + 1 := wrap_ok (by omega) (by omega)
          have hw2 : IntKind.i64.wrap (secS tx e.mem k j + at' (at' e.mem (k : Int)).vals (j : Int)) = secS tx e.mem k j + at' (at' e.mem (k : Int)).vals (j : Int) := wrap_ok (by omega) (by omega)
          rcases how : (at' e.mem (k : Int)).owner == tx with _ | _
          · simp -implicitDefEqProofs only [go_sem, z1, z2, z3, z4, z5, z6, z7, z8, z9, za, zb, zc, ↓reduceIte, hl2]
            (repeat' (first | ((with_reducible first | refine gon ?_ ?_ | refine gos ?_ ?_ | refine cdn ?_ ?_ | refine cds ?_ ?_ | refine gpn ?_ ?_ | refine gps ?_ ?_) <;> intro h <;> (try simp only [dt, df, gi, gt] at h) <;> try simp -implicitDefEqProofs only [go_sem, z1, z2, z3, z4, z5, z6, z7, z8, z9, za, zb, zc, ↓reduceIte, *]) | ((with_reducible refine And.intro ?_ ?_); (· first | omega | (simp only [List.length_take]; omega)); try simp -implicitDefEqProofs only [go_sem, z1, z2, z3, z4, z5, z6, z7, z8, z9, za, zb, zc, ↓reduceIte, *]) | fail))
            have hv0 : ¬ ((at' e.mem (k : Int)).owner = tx ∧ at' (at' e.mem (k : Int)).vals (j : Int) ≠ 0) := fun q => by simp_all
            refine ⟨j + 1, by omega, by omega, ?_⟩
            rw [secC_f hv0, secS_f hv0]
            refine wk_tm ?_; repeat (first | exact WL.nil | (with_reducible refine WL.any _ _ _ ?_) | (with_reducible refine WL.same _ _ _ ?_) | (refine WL.eq _ _ _ _ rfl ?_))
          · simp -implicitDefEqProofs only [go_sem, z1, z2, z3, z4, z5, z6, z7, z8, z9, za, zb, zc, ↓reduceIte, hl2]
            (repeat' (first | ((with_reducible first | refine gon ?_ ?_ | refine gos ?_ ?_ | refine cdn ?_ ?_ | refine cds ?_ ?_ | refine gpn ?_ ?_ | refine gps ?_ ?_) <;> intro h <;> (try simp only [dt, df, gi, gt] at h) <;> try simp -implicitDefEqProofs only [go_sem, z1, z2, z3, z4, z5, z6, z7, z8, z9, za, zb, zc, ↓reduceIte, *]) | ((with_reducible refine And.intro ?_ ?_); (· first | omega | (simp only [List.length_take]; omega)); try simp -implicitDefEqProofs only [go_sem, z1, z2, z3, z4, z5, z6, z7, z8, z9, za, zb, zc, ↓reduceIte, *]) | fail))
            · have hv0 : (at' e.mem (k : Int)).owner = tx ∧ at' (at' e.mem (k : Int)).vals (j : Int) ≠ 0 := ⟨by simpa using how, by simp_all⟩
              refine ⟨j + 1, by omega, by omega, ?_⟩
              rw [secC_t hv0, secS_t hv0]
              refine wk_tm ?_; repeat (first | exact WL.nil | (with_reducible refine WL.any _ _ _ ?_) | (with_reducible refine WL.same _ _ _ ?_) | (refine WL.eq _ _ _ _ rfl ?_))
            · have hv0 : ¬ ((at' e.mem (k : Int)).owner = tx ∧ at' (at' e.mem (k : Int)).vals (j : Int) ≠ 0) := fun q => by simp_all
              refine ⟨j + 1, by omega, by omega, ?_⟩
              rw [secC_f hv0, secS_f hv0]
              refine wk_tm ?_; repeat (first | exact WL.nil | (with_reducible refine WL.any _ _ _ ?_) | (with_reducible refine WL.same _ _ _ ?_) | (refine WL.eq _ _ _ _ rfl ?_))
        · have hl2 : ¬ (j : Int) < ((at' e.mem (k : Int)).vals.length : Int) := by omega
          simp -implicitDefEqProofs only [go_sem, z1, z2, z3, z4, z5, z6, z7, z8, z9, za, zb, zc, ↓reduceIte, hl2, hkb]
          (repeat' (first | ((with_reducible first | refine gon ?_ ?_ | refine gos ?_ ?_ | refine cdn ?_ ?_ | refine cds ?_ ?_ | refine gpn ?_ ?_ | refine gps ?_ ?_) <;> intro h <;> (try simp only [dt, df, gi, gt] at h) <;> try simp -implicitDefEqProofs only [go_sem, z1, z2, z3, z4, z5, z6, z7, z8, z9, za, zb, zc, ↓reduceIte, *]) | ((with_reducible refine And.intro ?_ ?_); (· first | omega | (simp only [List.length_take]; omega)); try simp -implicitDefEqProofs only [go_sem, z1, z2, z3, z4, z5, z6, z7, z8, z9, za, zb, zc, ↓reduceIte, *]) | fail))
          refine ⟨k + 1, by omega, by omega, ?_⟩
          rw [secC_3, secS_3, show 3 = j by omega]
          refine WkN.trans (wk_tm ?_) (wk_trunc (S := [some ⟨5, _⟩]) (Nat.le_refl _) rfl (by first | rfl | (simp only [sltB, List.all_cons, List.all_nil, slt_p, slt_I, slt_r, Bool.and_true]; done) | (simp only [sltB, List.all_cons, List.all_nil, slt_p, slt_I, slt_r, Bool.and_true]; rfl))); repeat (first | exact WL.nil | (with_reducible refine WL.any _ _ _ ?_) | (with_reducible refine WL.same _ _ _ ?_) | (refine WL.eq _ _ _ _ rfl ?_))
    · have hl1 : ¬ (k : Int) < (e.mem.length : Int) := by omega
      have e5 : k = 5 := by omega
      subst e5
      simp -implicitDefEqProofs only [go_sem, z1, z2, z3, z4, z5, z6, z7, z8, z9, za, zb, zc, ↓reduceIte, hl1]
      exact fin_drawn rd_ii ⟨⟨rfl, rfl⟩, rfl⟩
theorem rd_ei {S : Store} {e : Eng} {b : Int} : RdT [] S 0 (.tup [eA e, I b]) (.tup [eA e, I b]) := .tup _ _ (.cons _ _ _ _ (.agg _ _ (.cons _ _ _ _ (.rn _ _ (.same _ rfl)) (.cons _ _ _ _ (.rn _ _ (.same _ rfl)) (.cons _ _ _ _ (.rn _ _ (.same _ rfl)) (.cons _ _ _ _ (.rn _ _ (.same _ rfl)) (.cons _ _ _ _ (.rn _ _ (.same _ rfl)) .nil)))))) (.cons _ _ _ _ (.of _ _ (.rn _ _ (.same _ rfl))) .nil))
theorem DrawEngineSum_c (l : List Int) (hl : l.length < 4611686018427387904) (hb : Byt l) : FnX 43 [bts l] (fun q : Eng × Int => q.1.dr) (fun q => .tup [eA q.1, I q.2]) := by
  refine afnx_of Tryz.func43 rfl rfl ?_
  simp -implicitDefEqProofs only [go_sem, z1, z2, z3, z4, z5, z6, z7, z8, z9, za, zb, zc, ↓reduceIte, Tryz.f43]
  (repeat' (first | ((with_reducible first | refine gon ?_ ?_ | refine gos ?_ ?_ | refine cdn ?_ ?_ | refine cds ?_ ?_ | refine gpn ?_ ?_ | refine gps ?_ ?_) <;> intro h <;> (try simp only [dt, df, gi, gt] at h) <;> try simp -implicitDefEqProofs only [go_sem, z1, z2, z3, z4, z5, z6, z7, z8, z9, za, zb, zc, ↓reduceIte, *]) | ((with_reducible refine And.intro ?_ ?_); (· first | omega | (simp only [List.length_take]; omega)); try simp -implicitDefEqProofs only [go_sem, z1, z2, z3, z4, z5, z6, z7, z8, z9, za, zb, zc, ↓reduceIte, *]) | ((with_reducible refine enter_at ([] : List Nat) (M2 := []) (l6Open_c l hl hb) (by decide) ?_ ?_ rfl ?_); (· repeat (first | exact Keeps.nil | (refine Keeps.cons _ _ _ _ _ rfl rfl ?_ ?_; (· first | exact a2_p _ _ | exact a2_1 rfl | exact a2_I _ _)))); (· repeat (first | exact All2.nil | (refine All2.cons _ _ _ _ ?_ ?_; (· first | exact rnT_eX rfl rfl | exact rnT_prim | exact rnT_sl | exact rnT_ref rfl | exact rnT_agg rfl | exact rnT_own rfl | exact rnT_eX5 rfl rfl)))); rintro l' hC; try simp -implicitDefEqProofs only [go_sem, z1, z2, z3, z4, z5, z6, z7, z8, z9, za, zb, zc, ↓reduceIte, *])))
  (repeat' (first | ((with_reducible first | refine gon ?_ ?_ | refine gos ?_ ?_ | refine cdn ?_ ?_ | refine cds ?_ ?_ | refine gpn ?_ ?_ | refine gps ?_ ?_) <;> intro h <;> (try simp only [dt, df, gi, gt] at h) <;> try simp -implicitDefEqProofs only [go_sem, z1, z2, z3, z4, z5, z6, z7, z8, z9, za, zb, zc, ↓reduceIte, *]) | ((with_reducible refine And.intro ?_ ?_); (· first | omega | (simp only [List.length_take]; omega)); try simp -implicitDefEqProofs only [go_sem, z1, z2, z3, z4, z5, z6, z7, z8, z9, za, zb, zc, ↓reduceIte, *]) | ((with_reducible refine at_readerI (i := 1) ?_ (l72Engine_c l' 0 hC (by omega)) (fun _ _ => rfl) ?_); (· rfl); rintro ⟨e, p2⟩ ⟨h0, h1, h2⟩; simp only at *; try simp -implicitDefEqProofs only [go_sem, z1, z2, z3, z4, z5, z6, z7, z8, z9, za, zb, zc, ↓reduceIte, *])))
  refine cp_loop (fun q : Nat × Nat × Eng => ⟨(bts l :: .any :: .ref 0 5 0 0 :: I 0 :: .ref 1 2 0 0 :: .ref 2 5 0 0 :: I (q.1 : Int) :: .any :: .any :: .any :: .any :: .any :: .any :: .any :: .any :: .any :: .any :: .any :: .any :: .any :: .any :: .any :: .any :: .any :: .any :: .any :: .any :: .any :: .any :: .any :: .any :: .any :: .any :: .any :: .any :: .any :: .any :: .any :: .any :: .any :: .any :: []), [some ⟨5, [.agg [.prim (.slice none 0 0), .prim (.slice none 0 0), .prim (.slice none 0 0), I 0, Bo false]]⟩, oR l' q.2.1, some ⟨5, [eA q.2.2]⟩], []⟩) (fun q => q.1 ≤ 6 ∧ q.2.2.dr ∧ q.2.1 ≤ 1800 + 1802 * q.1) (fun q => 6 - q.1) (0, p2, e) ?_ ?_ ?_
  · exact ⟨by simp only; omega, h0, by simp only; omega⟩
  · refine wk_tm ?_; repeat (first | exact WL.nil | (with_reducible refine WL.any _ _ _ ?_) | (with_reducible refine WL.same _ _ _ ?_) | (refine WL.eq _ _ _ _ rfl ?_))
  · rintro ⟨i, p, e'⟩ ⟨hi, hdr, hp⟩
    simp only at hi hdr hp
    clear h0 h1 h2
    have hib : i < 4611686018427387904 := by omega
    have hsm := dr_small hdr
    simp only
    by_cases hil : i < 6
    · have hl1 : (i : Int) < 6 := by omega
      simp -implicitDefEqProofs only [go_sem, z1, z2, z3, z4, z5, z6, z7, z8, z9, za, zb, zc, ↓reduceIte, hl1, hib]
      (repeat' (first | ((with_reducible first | refine gon ?_ ?_ | refine gos ?_ ?_ | refine cdn ?_ ?_ | refine cds ?_ ?_ | refine gpn ?_ ?_ | refine gps ?_ ?_) <;> intro h <;> (try simp only [dt, df, gi, gt] at h) <;> try simp -implicitDefEqProofs only [go_sem, z1, z2, z3, z4, z5, z6, z7, z8, z9, za, zb, zc, ↓reduceIte, *]) | ((with_reducible refine And.intro ?_ ?_); (· first | omega | (simp only [List.length_take]; omega)); try simp -implicitDefEqProofs only [go_sem, z1, z2, z3, z4, z5, z6, z7, z8, z9, za, zb, zc, ↓reduceIte, *]) | first | ((refine pick_atI (i := 1) hC rfl ?_ ?_ ?_); (· omega); (· first | decide | omega); rintro k hk; try simp -implicitDefEqProofs only [go_sem, z1, z2, z3, z4, z5, z6, z7, z8, z9, za, zb, zc, ↓reduceIte, *]) | ((with_reducible refine enter_pu (EngineSumS_fn e' _ hsm) ?_ ?_ ?_); (· rfl); (· rfl); try simp -implicitDefEqProofs only [go_sem, z1, z2, z3, z4, z5, z6, z7, z8, z9, za, zb, zc, ↓reduceIte, *]) | ((with_reducible refine at_readerI (i := 1) ?_ (l72Engine_c l' (p + 1 + 1) hC (by omega)) (fun _ _ => rfl) ?_); (· rfl); rintro ⟨e2, p3⟩ ⟨h0, h1, h2⟩; simp only at *; try simp -implicitDefEqProofs only [go_sem, z1, z2, z3, z4, z5, z6, z7, z8, z9, za, zb, zc, ↓reduceIte, *])))
      · exact fin_drawn rd_ei ⟨(e', _), hdr, rfl, rfl, rfl⟩
      · refine ⟨(i + 1, p3, e2), ⟨by simp only; omega, h0, by simp only; omega⟩, by simp only; omega, ?_⟩
        refine wk_tm ?_; repeat (first | exact WL.nil | (with_reducible refine WL.any _ _ _ ?_) | (with_reducible refine WL.same _ _ _ ?_) | (refine WL.eq _ _ _ _ rfl ?_))
      · refine cp_drawG (id := 11) 5 (fun S => getO S 2 = some ⟨5, [eA e']⟩) mixed rfl ?_
        ((refine expG_get 0 (eA e') rfl ?_ ?_ ?_ ?_ ?_); (· decide +kernel); (· decide +kernel); (· rfl); (· (intro S hS0; simp -implicitDefEqProofs only [go_sem, z1, z2, z3, z4, z5, z6, z7, z8, z9, za, zb, zc, ↓reduceIte, hS0, *])); try simp -implicitDefEqProofs only [go_sem, z1, z2, z3, z4, z5, z6, z7, z8, z9, za, zb, zc, ↓reduceIte, List.set_cons_succ, List.set_cons_zero])
        ((refine expG_get 1 (.ref 1 2 0 0) rfl ?_ ?_ ?_ ?_ ?_); (· decide +kernel); (· decide +kernel); (· rfl); (· (intro S hS0; simp -implicitDefEqProofs only [go_sem, z1, z2, z3, z4, z5, z6, z7, z8, z9, za, zb, zc, ↓reduceIte, hS0, *])); try simp -implicitDefEqProofs only [go_sem, z1, z2, z3, z4, z5, z6, z7, z8, z9, za, zb, zc, ↓reduceIte, List.set_cons_succ, List.set_cons_zero])
        ((with_reducible refine expG_one 2 ?_ ?_); (· decide +kernel); try simp -implicitDefEqProofs only [go_sem, z1, z2, z3, z4, z5, z6, z7, z8, z9, za, zb, zc, ↓reduceIte, *])
        ((refine pick_atI (i := 1) hC rfl ?_ ?_ ?_); (· omega); (· first | decide | omega); rintro k5 hk5; try simp -implicitDefEqProofs only [go_sem, z1, z2, z3, z4, z5, z6, z7, z8, z9, za, zb, zc, ↓reduceIte, *])
        (repeat' (first | ((with_reducible first | refine gon ?_ ?_ | refine gos ?_ ?_ | refine cdn ?_ ?_ | refine cds ?_ ?_ | refine gpn ?_ ?_ | refine gps ?_ ?_) <;> intro h <;> (try simp only [dt, df, gi, gt] at h) <;> try simp -implicitDefEqProofs only [go_sem, z1, z2, z3, z4, z5, z6, z7, z8, z9, za, zb, zc, ↓reduceIte, *]) | ((with_reducible refine And.intro ?_ ?_); (· first | omega | (simp only [List.length_take]; omega)); try simp -implicitDefEqProofs only [go_sem, z1, z2, z3, z4, z5, z6, z7, z8, z9, za, zb, zc, ↓reduceIte, *]) | first | ((with_reducible refine expG_one 3 ?_ ?_); (· decide +kernel); try simp -implicitDefEqProofs only [go_sem, z1, z2, z3, z4, z5, z6, z7, z8, z9, za, zb, zc, ↓reduceIte, *]) | ((with_reducible refine expG_one 4 ?_ ?_); (· decide +kernel); try simp -implicitDefEqProofs only [go_sem, z1, z2, z3, z4, z5, z6, z7, z8, z9, za, zb, zc, ↓reduceIte, *]) | ((with_reducible refine expG_end ?_ ?_); (· decide +kernel); try simp -implicitDefEqProofs only [go_sem, z1, z2, z3, z4, z5, z6, z7, z8, z9, za, zb, zc, ↓reduceIte, *])))
        exact fin_drawn rd_ei ⟨(e', _), hdr, rfl, rfl, rfl⟩
    · have hl1 : ¬ (i : Int) < 6 := by omega
      simp -implicitDefEqProofs only [go_sem, z1, z2, z3, z4, z5, z6, z7, z8, z9, za, zb, zc, ↓reduceIte, hl1]
      (repeat' (first | ((with_reducible first | refine gon ?_ ?_ | refine gos ?_ ?_ | refine cdn ?_ ?_ | refine cds ?_ ?_ | refine gpn ?_ ?_ | refine gps ?_ ?_) <;> intro h <;> (try simp only [dt, df, gi, gt] at h) <;> try simp -implicitDefEqProofs only [go_sem, z1, z2, z3, z4, z5, z6, z7, z8, z9, za, zb, zc, ↓reduceIte, *]) | ((with_reducible refine And.intro ?_ ?_); (· first | omega | (simp only [List.length_take]; omega)); try simp -implicitDefEqProofs only [go_sem, z1, z2, z3, z4, z5, z6, z7, z8, z9, za, zb, zc, ↓reduceIte, *]) | fail))
      refine cp_drawG (id := 11) 5 (fun S => getO S 2 = some ⟨5, [eA e']⟩) mixed rfl ?_
      ((refine expG_get 0 (eA e') rfl ?_ ?_ ?_ ?_ ?_); (· decide +kernel); (· decide +kernel); (· rfl); (· (intro S hS0; simp -implicitDefEqProofs only [go_sem, z1, z2, z3, z4, z5, z6, z7, z8, z9, za, zb, zc, ↓reduceIte, hS0, *])); try simp -implicitDefEqProofs only [go_sem, z1, z2, z3, z4, z5, z6, z7, z8, z9, za, zb, zc, ↓reduceIte, List.set_cons_succ, List.set_cons_zero])
      ((refine expG_get 1 (.ref 1 2 0 0) rfl ?_ ?_ ?_ ?_ ?_); (· decide +kernel); (· decide +kernel); (· rfl); (· (intro S hS0; simp -implicitDefEqProofs only [go_sem, z1, z2, z3, z4, z5, z6, z7, z8, z9, za, zb, zc, ↓reduceIte, hS0, *])); try simp -implicitDefEqProofs only [go_sem, z1, z2, z3, z4, z5, z6, z7, z8, z9, za, zb, zc, ↓reduceIte, List.set_cons_succ, List.set_cons_zero])
      ((with_reducible refine expG_one 2 ?_ ?_); (· decide +kernel); try simp -implicitDefEqProofs only [go_sem, z1, z2, z3, z4, z5, z6, z7, z8, z9, za, zb, zc, ↓reduceIte, *])
      ((refine pick_atI (i := 1) hC rfl ?_ ?_ ?_); (· omega); (· first | decide | omega); rintro k5 hk5; try simp -implicitDefEqProofs only [go_sem, z1, z2, z3, z4, z5, z6, z7, z8, z9, za, zb, zc, ↓reduceIte, *])
      (repeat' (first | ((with_reducible first | refine gon ?_ ?_ | refine gos ?_ ?_ | refine cdn ?_ ?_ | refine cds ?_ ?_ | refine gpn ?_ ?_ | refine gps ?_ ?_) <;> intro h <;> (try simp only [dt, df, gi, gt] at h) <;> try simp -implicitDefEqProofs only [go_sem, z1, z2, z3, z4, z5, z6, z7, z8, z9, za, zb, zc, ↓reduceIte, *]) | ((with_reducible refine And.intro ?_ ?_); (· first | omega | (simp only [List.length_take]; omega)); try simp -implicitDefEqProofs only [go_sem, z1, z2, z3, z4, z5, z6, z7, z8, z9, za, zb, zc, ↓reduceIte, *]) | first | ((with_reducible refine expG_one 3 ?_ ?_); (· decide +kernel); try simp -implicitDefEqProofs only [go_sem, z1, z2, z3, z4, z5, z6, z7, z8, z9, za, zb, zc, ↓reduceIte, *]) | ((with_reducible refine expG_one 4 ?_ ?_); (· decide +kernel); try simp -implicitDefEqProofs only [go_sem, z1, z2, z3, z4, z5, z6, z7, z8, z9, za, zb, zc, ↓reduceIte, *]) | ((with_reducible refine expG_end ?_ ?_); (· decide +kernel); try simp -implicitDefEqProofs only [go_sem, z1, z2, z3, z4, z5, z6, z7, z8, z9, za, zb, zc, ↓reduceIte, *])))
      exact fin_drawn rd_ei ⟨(e', _), hdr, rfl, rfl, rfl⟩
def alC (p : Pg) : Nat → Int
  | 0 => 0
  | j + 1 => alC p j + if at' p.vals (j : Int) ≠ 0 then 1 else 0
def alS (p : Pg) : Nat → Int
  | 0 => 0
  | j + 1 => alS p j + if at' p.vals (j : Int) ≠ 0 then at' p.vals (j : Int) else 0
theorem row_own {p : Pg} (h : p.ok = true) {j : Nat} (hj : j < 3) (hv : at' p.vals (j : Int) ≠ 0) : p.owner = 1 ∨ p.owner = 2 ∨ p.owner = 3 := by
  have hl := Pg.ok_len h
  have ho := Pg.ok_own h
  unfold Pg.ok at h
  simp only [Bool.and_eq_true, decide_eq_true_eq, allFrom_iff] at h
  have := h.2 j (Nat.zero_le _) (by omega)
  unfold Pg.good at this
  simp only [Bool.and_eq_true, Bool.or_eq_true, bne_iff_ne, beq_iff_eq] at this
  omega
theorem rowC_all {p : Pg} (h : p.ok = true) : ∀ j : Nat, j ≤ 3 → rowC 1 p j + rowC 2 p j + rowC 3 p j = alC p j
  | 0, _ => rfl
  | j + 1, hj => by
    have ih := rowC_all h j (by omega)
    unfold rowC alC
    by_cases hv : at' p.vals (j : Int) ≠ 0
    · rcases row_own h (by omega) hv with e | e | e <;> rw [e] <;> simp only [hv] <;> simp <;> omega
    · simp only [hv, and_false, if_false]
      omega
theorem rowS_all {p : Pg} (h : p.ok = true) : ∀ j : Nat, j ≤ 3 → rowS 1 p j + rowS 2 p j + rowS 3 p j = alS p j
  | 0, _ => rfl
  | j + 1, hj => by
    have ih := rowS_all h j (by omega)
    unfold rowS alS
    by_cases hv : at' p.vals (j : Int) ≠ 0
    · rcases row_own h (by omega) hv with e | e | e <;> rw [e] <;> simp only [hv] <;> simp <;> omega
    · simp only [hv, and_false, if_false]
      omega
/-- What is left of the negated sums behind k pages and j slots. -/
def lfC (e : Eng) (k j : Nat) : Int := tabC 1 e.mem k + tabC 2 e.mem k + tabC 3 e.mem k + alC (at' e.mem (k : Int)) j - (tabC 1 e.mem 5 + tabC 2 e.mem 5 + tabC 3 e.mem 5)
def lfS (e : Eng) (k j : Nat) : Int := tabS 1 e.mem k + tabS 2 e.mem k + tabS 3 e.mem k + alS (at' e.mem (k : Int)) j - (tabS 1 e.mem 5 + tabS 2 e.mem 5 + tabS 3 e.mem 5)
theorem lfC_3 {e : Eng} (h : pgsOk e.mem = true) {k : Nat} (hk : k < 5) : lfC e (k + 1) 0 = lfC e k 3 := by
  have := rowC_all ((pgsOk_iff.1 h).2 k hk) 3 (Nat.le_refl _)
  unfold lfC
  rw [show alC (at' e.mem ((k + 1 : Nat) : Int)) 0 = 0 from rfl, secC_3, secC_3, secC_3]
  unfold secC
  omega
theorem lfS_3 {e : Eng} (h : pgsOk e.mem = true) {k : Nat} (hk : k < 5) : lfS e (k + 1) 0 = lfS e k 3 := by
  have := rowS_all ((pgsOk_iff.1 h).2 k hk) 3 (Nat.le_refl _)
  unfold lfS
  rw [show alS (at' e.mem ((k + 1 : Nat) : Int)) 0 = 0 from rfl, secS_3, secS_3, secS_3]
  unfold secS
  omega
theorem lfC_5 (e : Eng) : lfC e 5 0 = 0 := by unfold lfC alC; omega
theorem lfS_5 (e : Eng) : lfS e 5 0 = 0 := by unfold lfS alS; omega
theorem lfC_0 (e : Eng) : lfC e 0 0 = - (tabC 1 e.mem 5 + tabC 2 e.mem 5 + tabC 3 e.mem 5) := by unfold lfC alC tabC; simp only [tabC]; omega
theorem lfS_0 (e : Eng) : lfS e 0 0 = - (tabS 1 e.mem 5 + tabS 2 e.mem 5 + tabS 3 e.mem 5) := by unfold lfS alS tabS; simp only [tabS]; omega
theorem lfC_t {e : Eng} {k j : Nat} (h : at' (at' e.mem (k : Int)).vals (j : Int) ≠ 0) : lfC e k (j + 1) = lfC e k j + 1 := by
  unfold lfC; rw [alC, if_pos h]; omega
theorem lfS_t {e : Eng} {k j : Nat} (h : at' (at' e.mem (k : Int)).vals (j : Int) ≠ 0) : lfS e k (j + 1) = lfS e k j + at' (at' e.mem (k : Int)).vals (j : Int) := by
  unfold lfS; rw [alS, if_pos h]; omega
theorem lfC_f {e : Eng} {k j : Nat} (h : ¬ at' (at' e.mem (k : Int)).vals (j : Int) ≠ 0) : lfC e k (j + 1) = lfC e k j := by
  unfold lfC; rw [alC, if_neg h]; omega
theorem lfS_f {e : Eng} {k j : Nat} (h : ¬ at' (at' e.mem (k : Int)).vals (j : Int) ≠ 0) : lfS e k (j + 1) = lfS e k j := by
  unfold lfS; rw [alS, if_neg h]; omega
theorem alC_b (p : Pg) : ∀ j : Nat, 0 ≤ alC p j ∧ alC p j ≤ j
  | 0 => ⟨Int.le_refl _, Int.le_refl _⟩
  | j + 1 => by
    have := alC_b p j
    unfold alC
    split <;> omega
theorem alS_b {p : Pg} (h : p.v9) : ∀ j : Nat, j ≤ 3 → 0 ≤ alS p j ∧ alS p j ≤ 9 * (j : Int)
  | 0, _ => ⟨Int.le_refl _, Int.le_refl _⟩
  | j + 1, hj => by
    have := alS_b h j (by omega)
    have := h j (by omega)
    unfold alS
    split <;> omega
theorem lfC_b (e : Eng) {k j : Nat} (hk : k ≤ 5) (hj : j ≤ 3) : -1000 ≤ lfC e k j ∧ lfC e k j ≤ 1000 := by
  have := tabC_b 1 e.mem k
  have := tabC_b 2 e.mem k
  have := tabC_b 3 e.mem k
  have := tabC_b 1 e.mem 5
  have := tabC_b 2 e.mem 5
  have := tabC_b 3 e.mem 5
  have := alC_b (at' e.mem (k : Int)) j
  unfold lfC
  omega
theorem lfS_b {e : Eng} (h : pgsOk e.mem = true) {k j : Nat} (hk : k < 5) (hj : j ≤ 3) : -1000 ≤ lfS e k j ∧ lfS e k j ≤ 1000 := by
  have h9 := v9_of h
  have := tabS_b 1 h9 k (by omega)
  have := tabS_b 2 h9 k (by omega)
  have := tabS_b 3 h9 k (by omega)
  have := tabS_b 1 h9 5 (by omega)
  have := tabS_b 2 h9 5 (by omega)
  have := tabS_b 3 h9 5 (by omega)
  have := alS_b (h9 k hk) j hj
  unfold lfS
  omega
/-- The sum of a table, less the sums of the tables before i. -/
def dnC (e : Eng) (c : Int) : Nat → Int
  | 0 => c
  | i + 1 => dnC e c i - sumC e ((i + 1 : Nat) : Int)
def dnS (e : Eng) (c : Int) : Nat → Int
  | 0 => c
  | i + 1 => dnS e c i - sumS e ((i + 1 : Nat) : Int)
theorem sumC_b (e : Eng) (tx : Int) : 0 ≤ sumC e tx ∧ sumC e tx ≤ 1000 := by
  have := tabC_b tx e.mem 5
  unfold sumC
  split <;> omega
theorem sumS_b (e : Eng) (tx : Int) : 0 ≤ sumS e tx ∧ sumS e tx ≤ 1000 := by
  unfold sumS
  split
  · rename_i h
    have := tabS_b tx (v9_of (okE_iff.1 h.1).mem) 5 (by omega)
    omega
  · omega
theorem dnC_b (e : Eng) (c : Int) (hc : 0 ≤ c ∧ c ≤ 1000) : ∀ i : Nat, i ≤ 3 → -1000 * (i : Int) ≤ dnC e c i ∧ dnC e c i ≤ 1000
  | 0, _ => by unfold dnC; omega
  | i + 1, hi => by
    have := dnC_b e c hc i (by omega)
    have := sumC_b e ((i + 1 : Nat) : Int)
    unfold dnC
    omega
theorem dnS_b (e : Eng) (c : Int) (hc : 0 ≤ c ∧ c ≤ 1000) : ∀ i : Nat, i ≤ 3 → -1000 * (i : Int) ≤ dnS e c i ∧ dnS e c i ≤ 1000
  | 0, _ => by unfold dnS; omega
  | i + 1, hi => by
    have := dnS_b e c hc i (by omega)
    have := sumS_b e ((i + 1 : Nat) : Int)
    unfold dnS
    omega
theorem dnC_3 {e : Eng} (h : okE e = true) (c : Int) : dnC e c 3 - c = lfC e 0 0 := by
  rw [lfC_0]
  simp only [dnC]
  have h1 : sumC e ((0 + 1 : Nat) : Int) = tabC 1 e.mem 5 := if_pos ⟨h, rfl⟩
  have h2 : sumC e ((1 + 1 : Nat) : Int) = tabC 2 e.mem 5 := if_pos ⟨h, rfl⟩
  have h3 : sumC e ((2 + 1 : Nat) : Int) = tabC 3 e.mem 5 := if_pos ⟨h, rfl⟩
  rw [h1, h2, h3]
  omega
theorem dnS_3 {e : Eng} (h : okE e = true) (c : Int) : dnS e c 3 - c = lfS e 0 0 := by
  rw [lfS_0]
  simp only [dnS]
  have h1 : sumS e ((0 + 1 : Nat) : Int) = tabS 1 e.mem 5 := if_pos ⟨h, rfl⟩
  have h2 : sumS e ((1 + 1 : Nat) : Int) = tabS 2 e.mem 5 := if_pos ⟨h, rfl⟩
  have h3 : sumS e ((2 + 1 : Nat) : Int) = tabS 3 e.mem 5 := if_pos ⟨h, rfl⟩
  rw [h1, h2, h3]
  omega
theorem Sum_law (l : List Int) (hl : l.length < 4611686018427387904) (hb : Byt l) : Fn1 Tryz.prog 10 [bts l] (Bo true) := by
  refine fn1_of Tryz.func10 rfl rfl ?_
  by_cases hlen : (1048576 : Int) < (l.length : Int)
  · simp -implicitDefEqProofs only [go_sem, z1, z2, z3, z4, z5, z6, z7, z8, z9, za, zb, zc, ↓reduceIte, Tryz.f10, hlen]
    exact fin_pu rfl rfl
  simp -implicitDefEqProofs only [go_sem, z1, z2, z3, z4, z5, z6, z7, z8, z9, za, zb, zc, ↓reduceIte, Tryz.f10, hlen]
  (repeat' (first | ((with_reducible first | refine gon ?_ ?_ | refine gos ?_ ?_ | refine cdn ?_ ?_ | refine cds ?_ ?_ | refine gpn ?_ ?_ | refine gps ?_ ?_) <;> intro h <;> (try simp only [dt, df, gi, gt] at h) <;> try simp -implicitDefEqProofs only [go_sem, z1, z2, z3, z4, z5, z6, z7, z8, z9, za, zb, zc, ↓reduceIte, *]) | ((with_reducible refine And.intro ?_ ?_); (· first | omega | (simp only [List.length_take]; omega)); try simp -implicitDefEqProofs only [go_sem, z1, z2, z3, z4, z5, z6, z7, z8, z9, za, zb, zc, ↓reduceIte, *]) | ((with_reducible refine enter_at ([] : List Nat) (M2 := []) (DrawEngineSum_c l hl hb) (by decide) ?_ ?_ rfl ?_); (· repeat (first | exact Keeps.nil | (refine Keeps.cons _ _ _ _ _ rfl rfl ?_ ?_; (· first | exact a2_p _ _ | exact a2_1 rfl | exact a2_I _ _)))); (· repeat (first | exact All2.nil | (refine All2.cons _ _ _ _ ?_ ?_; (· first | exact rnT_eX rfl rfl | exact rnT_prim | exact rnT_sl | exact rnT_ref rfl | exact rnT_agg rfl | exact rnT_own rfl | exact rnT_eX5 rfl rfl)))); rintro ⟨e, tx⟩ hdr; try simp -implicitDefEqProofs only [go_sem, z1, z2, z3, z4, z5, z6, z7, z8, z9, za, zb, zc, ↓reduceIte, *])))
  have hsm := dr_small hdr
  have c1 := EngineSumI_fn e tx hsm
  have c2 := EngineSumS_fn e tx hsm
  have c3 := okS e hsm
  have bc := sumC_b e tx
  have bs := sumS_b e tx
  obtain ⟨ok, hok⟩ : ∃ ok, okE e = ok := ⟨_, rfl⟩
  rw [hok] at c3
  have e1 : (sumC e tx != sumC e tx) = false := by simp
  have e2 : (sumS e tx != sumS e tx) = false := by simp
  have e3 : (sumC e tx == sumC e tx) = true := by simp
  have e4 : (sumS e tx == sumS e tx) = true := by simp
  rcases ok with _ | _
  · (repeat' (first | ((with_reducible first | refine gon ?_ ?_ | refine gos ?_ ?_ | refine cdn ?_ ?_ | refine cds ?_ ?_ | refine gpn ?_ ?_ | refine gps ?_ ?_) <;> intro h <;> (try simp only [dt, df, gi, gt] at h) <;> try simp -implicitDefEqProofs only [go_sem, z1, z2, z3, z4, z5, z6, z7, z8, z9, za, zb, zc, ↓reduceIte, *]) | ((with_reducible refine And.intro ?_ ?_); (· first | omega | (simp only [List.length_take]; omega)); try simp -implicitDefEqProofs only [go_sem, z1, z2, z3, z4, z5, z6, z7, z8, z9, za, zb, zc, ↓reduceIte, *]) | first | ((with_reducible refine enter_pu (c1) ?_ ?_ ?_); (· rfl); (· rfl); try simp -implicitDefEqProofs only [go_sem, z1, z2, z3, z4, z5, z6, z7, z8, z9, za, zb, zc, ↓reduceIte, *]) | ((with_reducible refine enter_pu (c2) ?_ ?_ ?_); (· rfl); (· rfl); try simp -implicitDefEqProofs only [go_sem, z1, z2, z3, z4, z5, z6, z7, z8, z9, za, zb, zc, ↓reduceIte, *]) | ((with_reducible refine enter_pu (c3) ?_ ?_ ?_); (· rfl); (· rfl); try simp -implicitDefEqProofs only [go_sem, z1, z2, z3, z4, z5, z6, z7, z8, z9, za, zb, zc, ↓reduceIte, *])))
    all_goals exact fin_pu rfl rfl
  (repeat' (first | ((with_reducible first | refine gon ?_ ?_ | refine gos ?_ ?_ | refine cdn ?_ ?_ | refine cds ?_ ?_ | refine gpn ?_ ?_ | refine gps ?_ ?_) <;> intro h <;> (try simp only [dt, df, gi, gt] at h) <;> try simp -implicitDefEqProofs only [go_sem, z1, z2, z3, z4, z5, z6, z7, z8, z9, za, zb, zc, ↓reduceIte, *]) | ((with_reducible refine And.intro ?_ ?_); (· first | omega | (simp only [List.length_take]; omega)); try simp -implicitDefEqProofs only [go_sem, z1, z2, z3, z4, z5, z6, z7, z8, z9, za, zb, zc, ↓reduceIte, *]) | first | ((with_reducible refine enter_pu (c1) ?_ ?_ ?_); (· rfl); (· rfl); try simp -implicitDefEqProofs only [go_sem, z1, z2, z3, z4, z5, z6, z7, z8, z9, za, zb, zc, ↓reduceIte, *]) | ((with_reducible refine enter_pu (c2) ?_ ?_ ?_); (· rfl); (· rfl); try simp -implicitDefEqProofs only [go_sem, z1, z2, z3, z4, z5, z6, z7, z8, z9, za, zb, zc, ↓reduceIte, *]) | ((with_reducible refine enter_pu (c3) ?_ ?_ ?_); (· rfl); (· rfl); try simp -implicitDefEqProofs only [go_sem, z1, z2, z3, z4, z5, z6, z7, z8, z9, za, zb, zc, ↓reduceIte, *])))
  have hmk : pgsOk e.mem = true := (okE_iff.1 hok).mem
  have h9 := v9_of hmk
  have hm5 : 5 ≤ e.mem.length := by have := (pgsOk_iff.1 hmk).1; omega
  have hvl : ∀ k : Nat, k < 5 → 3 ≤ (at' e.mem (k : Int)).vals.length := fun k hk => by have := Pg.ok_len ((pgsOk_iff.1 hmk).2 k hk); omega
  have hz3 := dnC_3 hok (sumC e tx)
  have hz4 := dnS_3 hok (sumS e tx)
  have hd3 := dnC_b e (sumC e tx) bc 3 (by omega)
  have hd4 := dnS_b e (sumS e tx) bs 3 (by omega)
  clear c2 c3 e1 e2 e3 e4 hok
  refine cp_loop (fun i : Nat => ⟨(bts l :: .any :: Bo false :: .ref 0 5 0 0 :: I tx :: .any :: .any :: I (dnC e (sumC e tx) i) :: I (dnS e (sumS e tx) i) :: I ((i + 1 : Nat) : Int) :: .any :: .any :: .any :: .any :: .any :: .any :: .any :: .any :: .any :: .any :: .any :: .any :: .any :: .any :: .any :: .any :: .any :: .any :: .any :: .any :: .any :: .any :: .any :: .any :: .any :: .any :: .any :: .any :: .any :: .any :: .any :: .any :: .any :: .any :: .any :: .any :: .any :: .any :: .any :: .any :: .any :: .any :: .any :: .any :: .any :: .any :: .any :: .any :: .any :: .any :: .any :: .any :: .any :: .any :: .any :: .any :: .any :: .any :: .any :: .any :: .any :: .any :: .any :: .any :: .any :: .any :: .any :: .any :: .any :: .any :: .any :: .any :: .any :: .any :: .any :: .any :: .any :: .any :: .any :: .any :: .any :: .any :: .any :: .any :: .any :: .any :: .any :: .any :: .any :: .any :: .any :: .any :: .any :: .any :: .any :: .any :: .any :: .any :: .any :: .any :: .any :: .any :: .any :: .any :: .any :: .any :: .any :: .any :: .any :: .any :: .any :: .any :: .any :: .any :: .any :: .any :: .any :: .any :: .any :: .any :: .any :: .any :: .any :: .any :: .any :: .any :: .any :: []), [some ⟨5, [eA e]⟩], []⟩) (fun i => i ≤ 3) (fun i => 3 - i) 0 ?_ ?_ ?_
  · simp
  · refine wk_tm ?_; repeat (first | exact WL.nil | (with_reducible refine WL.any _ _ _ ?_) | (with_reducible refine WL.same _ _ _ ?_) | (refine WL.eq _ _ _ _ rfl ?_))
  · rintro i hi
    have hib : i + 1 < 4611686018427387904 := by omega
    by_cases hil : i < 3
    · have hl1 : ((i + 1 : Nat) : Int) ≤ 3 := by omega
      have c4 := EngineSumI_fn e ((i + 1 : Nat) : Int) hsm
      have b1 := dnC_b e (sumC e tx) bc i hi
      have b2 := dnS_b e (sumS e tx) bs i hi
      have b3 := sumC_b e ((i + 1 : Nat) : Int)
      have b4 := sumS_b e ((i + 1 : Nat) : Int)
      have w1 : IntKind.i64.wrap (dnC e (sumC e tx) i - sumC e ((i + 1 : Nat) : Int)) = dnC e (sumC e tx) (i + 1) := wrap_ok (by omega) (by omega)
      have w2 : IntKind.i64.wrap (dnS e (sumS e tx) i - sumS e ((i + 1 : Nat) : Int)) = dnS e (sumS e tx) (i + 1) := wrap_ok (by omega) (by omega)
      simp -implicitDefEqProofs only [go_sem, z1, z2, z3, z4, z5, z6, z7, z8, z9, za, zb, zc, ↓reduceIte, hl1, hib]
      (repeat' (first | ((with_reducible first | refine gon ?_ ?_ | refine gos ?_ ?_ | refine cdn ?_ ?_ | refine cds ?_ ?_ | refine gpn ?_ ?_ | refine gps ?_ ?_) <;> intro h <;> (try simp only [dt, df, gi, gt] at h) <;> try simp -implicitDefEqProofs only [go_sem, z1, z2, z3, z4, z5, z6, z7, z8, z9, za, zb, zc, ↓reduceIte, *]) | ((with_reducible refine And.intro ?_ ?_); (· first | omega | (simp only [List.length_take]; omega)); try simp -implicitDefEqProofs only [go_sem, z1, z2, z3, z4, z5, z6, z7, z8, z9, za, zb, zc, ↓reduceIte, *]) | ((with_reducible refine enter_pu (c4) ?_ ?_ ?_); (· rfl); (· rfl); try simp -implicitDefEqProofs only [go_sem, z1, z2, z3, z4, z5, z6, z7, z8, z9, za, zb, zc, ↓reduceIte, *])))
      refine ⟨i + 1, by omega, by omega, ?_⟩
      refine wk_tm ?_; repeat (first | exact WL.nil | (with_reducible refine WL.any _ _ _ ?_) | (with_reducible refine WL.same _ _ _ ?_) | (refine WL.eq _ _ _ _ rfl ?_))
    · have hl1 : ¬ ((i + 1 : Nat) : Int) ≤ 3 := by omega
      have e5 : i = 3 := by omega
      subst e5
      have w1 : IntKind.i64.wrap (dnC e (sumC e tx) 3 - sumC e tx) = lfC e 0 0 := by rw [← hz3]; exact wrap_ok (by omega) (by omega)
      have w2 : IntKind.i64.wrap (dnS e (sumS e tx) 3 - sumS e tx) = lfS e 0 0 := by rw [← hz4]; exact wrap_ok (by omega) (by omega)
      clear hz3 hz4 hd3 hd4
      simp -implicitDefEqProofs only [go_sem, z1, z2, z3, z4, z5, z6, z7, z8, z9, za, zb, zc, ↓reduceIte, hl1]
      (repeat' (first | ((with_reducible first | refine gon ?_ ?_ | refine gos ?_ ?_ | refine cdn ?_ ?_ | refine cds ?_ ?_ | refine gpn ?_ ?_ | refine gps ?_ ?_) <;> intro h <;> (try simp only [dt, df, gi, gt] at h) <;> try simp -implicitDefEqProofs only [go_sem, z1, z2, z3, z4, z5, z6, z7, z8, z9, za, zb, zc, ↓reduceIte, *]) | ((with_reducible refine And.intro ?_ ?_); (· first | omega | (simp only [List.length_take]; omega)); try simp -implicitDefEqProofs only [go_sem, z1, z2, z3, z4, z5, z6, z7, z8, z9, za, zb, zc, ↓reduceIte, *]) | ((with_reducible refine enter_pu (c1) ?_ ?_ ?_); (· rfl); (· rfl); try simp -implicitDefEqProofs only [go_sem, z1, z2, z3, z4, z5, z6, z7, z8, z9, za, zb, zc, ↓reduceIte, *])))
      clear w1 w2 c1 bc bs hil hl1 hib hi
      refine cp_loop (fun k : Nat => ⟨(bts l :: .any :: Bo false :: .ref 0 5 0 0 :: I tx :: .any :: .any :: I (lfC e k 0) :: I (lfS e k 0) :: .any :: .any :: .any :: .any :: .any :: I (k : Int) :: .any :: .any :: .any :: .any :: .any :: .any :: .any :: .any :: .any :: .any :: .any :: .any :: .any :: .any :: .any :: .any :: .any :: .any :: .any :: .any :: .any :: .any :: .any :: .any :: .any :: .any :: .any :: .any :: .any :: .any :: .any :: .any :: .any :: .any :: .any :: .any :: .any :: .any :: .any :: .any :: .any :: .any :: .any :: .any :: .any :: .any :: .any :: .any :: .any :: .any :: .any :: .any :: .any :: .any :: .any :: .any :: .any :: .any :: .any :: .any :: .any :: .any :: .any :: .any :: .any :: .any :: .any :: .any :: .any :: .any :: .any :: .any :: .any :: .any :: .any :: .any :: .any :: .any :: .any :: .any :: .any :: .any :: .any :: .any :: .any :: .any :: .any :: .any :: .any :: .any :: .any :: .any :: .any :: .any :: .any :: .any :: .any :: .any :: .any :: .any :: .any :: .any :: .any :: .any :: .any :: .any :: .any :: .any :: .any :: .any :: .any :: .any :: .any :: .any :: .any :: .any :: .any :: .any :: .any :: .any :: .any :: .any :: []), [some ⟨5, [eA e]⟩], []⟩) (fun k => k ≤ 5) (fun k => 5 - k) 0 ?_ ?_ ?_
      · simp
      · refine wk_tm ?_; repeat (first | exact WL.nil | (with_reducible refine WL.any _ _ _ ?_) | (with_reducible refine WL.same _ _ _ ?_) | (refine WL.eq _ _ _ _ rfl ?_))
      · rintro k hk
        have hkb : k < 4611686018427387904 := by omega
        by_cases hkl : k < 5
        · have hl1 : (k : Int) < 5 := by omega
          have hv3 := hvl k hkl
          have hkm : k < e.mem.length := by omega
          simp -implicitDefEqProofs only [go_sem, z1, z2, z3, z4, z5, z6, z7, z8, z9, za, zb, zc, ↓reduceIte, hl1]
          (repeat' (first | ((with_reducible first | refine gon ?_ ?_ | refine gos ?_ ?_ | refine cdn ?_ ?_ | refine cds ?_ ?_ | refine gpn ?_ ?_ | refine gps ?_ ?_) <;> intro h <;> (try simp only [dt, df, gi, gt] at h) <;> try simp -implicitDefEqProofs only [go_sem, z1, z2, z3, z4, z5, z6, z7, z8, z9, za, zb, zc, ↓reduceIte, *]) | ((with_reducible refine And.intro ?_ ?_); (· first | omega | (simp only [List.length_take]; omega)); try simp -implicitDefEqProofs only [go_sem, z1, z2, z3, z4, z5, z6, z7, z8, z9, za, zb, zc, ↓reduceIte, *]) | fail))
          refine cp_loop (fun j : Nat => ⟨(bts l :: .any :: Bo false :: .ref 0 5 0 0 :: I tx :: .any :: .any :: I (lfC e k j) :: I (lfS e k j) :: .any :: .any :: .any :: .any :: .any :: I (k : Int) :: I (j : Int) :: .any :: .any :: .any :: .any :: .any :: .any :: .any :: .any :: .any :: .any :: .any :: .any :: .any :: .any :: .any :: .any :: .any :: .any :: .any :: .any :: .any :: .any :: .any :: .any :: .any :: .any :: .any :: .any :: .any :: .any :: .any :: .any :: .any :: .any :: .any :: .any :: .any :: .any :: .any :: .any :: .any :: .any :: .any :: .any :: .any :: .any :: .any :: .any :: .any :: .any :: .any :: .any :: .any :: .any :: .any :: .any :: .any :: .any :: .any :: .any :: .any :: .any :: .any :: .any :: .any :: .any :: .any :: .any :: .any :: .any :: .any :: .any :: .any :: .any :: .any :: .any :: .any :: .any :: .any :: .any :: .any :: .any :: .any :: .any :: .any :: .any :: .any :: .any :: .any :: .any :: .any :: .any :: .any :: .any :: .any :: .any :: .any :: .any :: .any :: .any :: .any :: .any :: .any :: .any :: .any :: .any :: .any :: .any :: .any :: .any :: .any :: .any :: .any :: .any :: .any :: .any :: .any :: .any :: .any :: .any :: .any :: []), [some ⟨5, [eA e]⟩], []⟩) (fun j => j ≤ 3) (fun j => 3 - j) 0 ?_ ?_ ?_
          · simp
          · refine wk_tm ?_; repeat (first | exact WL.nil | (with_reducible refine WL.any _ _ _ ?_) | (with_reducible refine WL.same _ _ _ ?_) | (refine WL.eq _ _ _ _ rfl ?_))
          · rintro j hj
            have hjb : j < 4611686018427387904 := by omega
            have b1 := lfC_b e (k := k) (j := j) (by omega) hj
            have b2 := lfS_b hmk hkl hj
            by_cases hjl : j < 3
            · have hl2 : (j : Int) < 3 := by omega
              have hv := h9 k hkl j hjl
              have hw1 : IntKind.i64.wrap (lfC e k j + 1) = lfC e k j + 1 := wrap_ok (by omega) (by omega)
              have hw2 : IntKind.i64.wrap (lfS e k j + at' (at' e.mem (k : Int)).vals (j : Int)) = lfS e k j + at' (at' e.mem (k : Int)).vals (j : Int) := wrap_ok (by omega) (by omega)
              simp -implicitDefEqProofs only [go_sem, z1, z2, z3, z4, z5, z6, z7, z8, z9, za, zb, zc, ↓reduceIte, hl2]
              (repeat' (first | ((with_reducible first | refine gon ?_ ?_ | refine gos ?_ ?_ | refine cdn ?_ ?_ | refine cds ?_ ?_ | refine gpn ?_ ?_ | refine gps ?_ ?_) <;> intro h <;> (try simp only [dt, df, gi, gt] at h) <;> try simp -implicitDefEqProofs only [go_sem, z1, z2, z3, z4, z5, z6, z7, z8, z9, za, zb, zc, ↓reduceIte, *]) | ((with_reducible refine And.intro ?_ ?_); (· first | omega | (simp only [List.length_take]; omega)); try simp -implicitDefEqProofs only [go_sem, z1, z2, z3, z4, z5, z6, z7, z8, z9, za, zb, zc, ↓reduceIte, *]) | fail))
              · have hv0 : at' (at' e.mem (k : Int)).vals (j : Int) ≠ 0 := by simp_all
                refine ⟨j + 1, by omega, by omega, ?_⟩
                rw [lfC_t hv0, lfS_t hv0]
                refine wk_tm ?_; repeat (first | exact WL.nil | (with_reducible refine WL.any _ _ _ ?_) | (with_reducible refine WL.same _ _ _ ?_) | (refine WL.eq _ _ _ _ rfl ?_))
              · have hv0 : ¬ at' (at' e.mem (k : Int)).vals (j : Int) ≠ 0 := by simp_all
                refine ⟨j + 1, by omega, by omega, ?_⟩
                rw [lfC_f hv0, lfS_f hv0]
                refine wk_tm ?_; repeat (first | exact WL.nil | (with_reducible refine WL.any _ _ _ ?_) | (with_reducible refine WL.same _ _ _ ?_) | (refine WL.eq _ _ _ _ rfl ?_))
            · have hl2 : ¬ (j : Int) < 3 := by omega
              simp -implicitDefEqProofs only [go_sem, z1, z2, z3, z4, z5, z6, z7, z8, z9, za, zb, zc, ↓reduceIte, hl2, hkb]
              (repeat' (first | ((with_reducible first | refine gon ?_ ?_ | refine gos ?_ ?_ | refine cdn ?_ ?_ | refine cds ?_ ?_ | refine gpn ?_ ?_ | refine gps ?_ ?_) <;> intro h <;> (try simp only [dt, df, gi, gt] at h) <;> try simp -implicitDefEqProofs only [go_sem, z1, z2, z3, z4, z5, z6, z7, z8, z9, za, zb, zc, ↓reduceIte, *]) | ((with_reducible refine And.intro ?_ ?_); (· first | omega | (simp only [List.length_take]; omega)); try simp -implicitDefEqProofs only [go_sem, z1, z2, z3, z4, z5, z6, z7, z8, z9, za, zb, zc, ↓reduceIte, *]) | fail))
              refine ⟨k + 1, by omega, by omega, ?_⟩
              rw [lfC_3 hmk hkl, lfS_3 hmk hkl, show 3 = j by omega]
              refine wk_tm ?_; repeat (first | exact WL.nil | (with_reducible refine WL.any _ _ _ ?_) | (with_reducible refine WL.same _ _ _ ?_) | (refine WL.eq _ _ _ _ rfl ?_))
        · have hl1 : ¬ (k : Int) < 5 := by omega
          have e5 : k = 5 := by omega
          subst e5
          have c5 := EngineSumI_fn e 0 hsm
          rw [show sumC e 0 = 0 from if_neg (by simp [isIn]), show sumS e 0 = 0 from if_neg (by simp [isIn])] at c5
          have z1 := lfC_5 e
          have z2 := lfS_5 e
          simp -implicitDefEqProofs only [go_sem, z1, z2, z3, z4, z5, z6, z7, z8, z9, za, zb, zc, ↓reduceIte, hl1]
          (repeat' (first | ((with_reducible first | refine gon ?_ ?_ | refine gos ?_ ?_ | refine cdn ?_ ?_ | refine cds ?_ ?_ | refine gpn ?_ ?_ | refine gps ?_ ?_) <;> intro h <;> (try simp only [dt, df, gi, gt] at h) <;> try simp -implicitDefEqProofs only [go_sem, z1, z2, z3, z4, z5, z6, z7, z8, z9, za, zb, zc, ↓reduceIte, *]) | ((with_reducible refine And.intro ?_ ?_); (· first | omega | (simp only [List.length_take]; omega)); try simp -implicitDefEqProofs only [go_sem, z1, z2, z3, z4, z5, z6, z7, z8, z9, za, zb, zc, ↓reduceIte, *]) | ((with_reducible refine enter_pu (c5) ?_ ?_ ?_); (· rfl); (· rfl); try simp -implicitDefEqProofs only [go_sem, z1, z2, z3, z4, z5, z6, z7, z8, z9, za, zb, zc, ↓reduceIte, *])))
          all_goals exact fin_pu rfl rfl
end Go.Proofs.YtihplpffmdeldaaGreat.Am
end
