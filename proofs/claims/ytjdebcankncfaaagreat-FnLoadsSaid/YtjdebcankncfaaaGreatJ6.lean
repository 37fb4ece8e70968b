/- Lemmas and walks: Go Ha Ob Hb Hc Hd Ia Ja Jb Jc Jd Je Jf Jg Jh Ka Kb Xa Xb Xc Xd Xe Xf Xg Xi Xj Xl Xm Xn Xo Xv Xw Xx Xy Xz Ya Kc Ke Kd Kf. No conditions. -/
import Derived.Test.YtjdebcankncfaaaGreatJ5
import Derived.Test.YtjdebcankncfaaaGreatJ2
import Derived.Laws.Strings
import Derived.Test.YtjdebcankncfaaaGreatJ3
import Derived.Test.YtjdebcankncfaaaGreatJ4
section
set_option linter.unusedVariables false
set_option linter.unusedSimpArgs false
set_option maxRecDepth 100000
set_option maxHeartbeats 8000000
namespace Go.Proofs.YtjdebcankncfaaaGreat.Am
open Go Go.RowKit Go.Proofs
attribute [local go_sem_proc] Nat.reduceAdd Nat.reduceSub Nat.reduceMul Nat.reduceLT Nat.reduceLeDiff Nat.reduceEqDiff Int.reduceBEq Int.reduceBNe Int.reduceNeg Int.reduceSub Int.reduceLE Int.reduceLT
attribute [local go_sem_proc ↓] reduceIte
attribute [local congr] opsP_congr codeP_congr AWP_congr afterR_congr preP_congr afterPre_congr gPre_congr gOps_congr condP_congr stepE_congr
attribute [local go_sem] ty_int ty_bool ty_str ty_u8 ty_ints ty_bytes ty_page ty_pages ty_lpage ty_lpages ty_rec ty_recs ty_lrec ty_lrecs ty_eng ty_leng
attribute [local go_sem] true_and and_true beq_true' beq_false' toNat_cast Int.natCast_nonneg Bool.not_not Bool.not_true Bool.not_false decide_true decide_false Bool.or_false Bool.false_or Bool.or_true Bool.true_or Bool.and_false Bool.false_and Nat.zero_add Int.toNat_of_nonneg wrap_succ wrap_m1 wrap_nat succ_m1 cast0 succ_pos' succ_ne' succ_bne' ge_iff_le gt_iff_lt if_true if_false
attribute [local go_sem] slt_r slt_I slt_p ty_rd ty_ev ty_evs
@[go_sem] theorem rho0 {n i : Nat} : rho [] n i = n + i := by simp [rho]
theorem at_readerI {i : Nat} {f : FuncId} {l : List Int} {p : Nat} {X : Type} {J : X → Prop} {R : X → AV} {pos : X → Nat} {d : Tmp} {tm : List AV} {T : Store} {mv : List Nat} {K : St → Prop} (hi : T[i]? = some (oR l p)) (h : AFnX Tryz.prog f [.ref 0 2 0 0] [oR l p] J R (fun q => [oR l (pos q)]) [])
    (hR : ∀ q ρ, (R q).rn ρ = R q) (hk : ∀ q, J q → K ⟨tm.set d (R q), T.set i (oR l (pos q)), mv⟩) : afterR Tryz.prog (.enter f [.ref i 2 0 0]) (some d) ⟨tm, T, mv⟩ K := by
  refine enter_at [i] (M2 := []) h (by simp) (.cons _ _ _ _ _ hi rfl (a2_1 rfl) .nil) (.cons _ _ _ _ (rnT_ref rfl) .nil) rfl fun q hq => ?_
  have := hk q hq
  rw [hR]
  simpa only [scT_nil, scS_nil, putS_cons, putS_nil, rnO_agg, rn0_sl, rn0_prim, List.map_cons, List.map_nil, List.nil_append] using this
theorem pick_atI {i : Nat} {l : List Int} {p : Nat} {n : Int} {d : Tmp} {tm : List AV} {T : Store} {mv : List Nat} {K : St → Prop} (h : Cod l) (hi : T[i]? = some (oR l p)) (hp : p < 1000000) (hn : 1 ≤ n) (hk : ∀ k, PickJ n k → K ⟨tm.set d (I k), T.set i (oR l (p + 1)), mv⟩) :
    afterR Tryz.prog (.enter 46 [.ref i 2 0 0, I n]) (some d) ⟨tm, T, mv⟩ K := by
  refine enter_at [i] (M2 := []) (pick_c' h hp hn) (by simp) (.cons _ _ _ _ _ hi rfl (a2_1 rfl) .nil) (.cons _ _ _ _ (rnT_ref rfl) (.cons _ _ _ _ rnT_prim .nil)) rfl fun k hk' => ?_
  have := hk k hk'
  simpa only [scT_nil, scS_nil, putS_cons, putS_nil, rn_prim, rnO_agg, rn0_sl, rn0_prim, List.map_cons, List.map_nil, List.nil_append] using this
/-- What a drawn engine is like. -/
structure Eng.dr (e : Eng) : Prop where
  disk : e.disk.length = 5
  mem : e.mem.length = 5
  log : e.log.length ≤ 152
  dv : ∀ p ∈ e.disk, p.vals.length ≤ 3
  mv : ∀ p ∈ e.mem, p.vals.length ≤ 3
theorem rgs_vals {ps : List Pg} (h : Rgs ps) : ∀ p ∈ ps, p.vals.length ≤ 3 := fun p hp => by
  obtain ⟨k, hk, rfl⟩ := mem_at hp
  have := (h.rg k (by rw [h.len] at hk; exact hk)).len
  omega
theorem dr_of {e : Eng} (h : Inv e) : e.dr := ⟨h.disk.len, h.mem.len, by have := h.len; omega, rgs_vals h.disk, rgs_vals h.mem⟩
theorem rd_pgs {K : List Nat} {S : Store} {n0 i : Nat} {ps : List Pg} (hi : n0 ≤ i) (hK : i ∉ K) (ho : getO S i = some ⟨3, ps.map pA⟩) (hl : ps.length = 5) : Rd0 K S n0 (.own i 3 0 5) (pgs ps) :=
  .drop i 3 0 5 _ _ hi hK ho rfl (by simp [hl]) (by have := isDs_p ps; simpa [List.take_of_length_le, hl] using this)
theorem rd_recs {K : List Nat} {S : Store} {n0 i n : Nat} {l : List Rc} (hi : n0 ≤ i) (hK : i ∉ K) (ho : getO S i = some ⟨8, l.map rA⟩) (hl : n = l.length) : Rd0 K S n0 (.own i 8 0 n) (recs l) := dropR hi hK ho hl
theorem fin_eng {l : List Int} {T : Store} {p p' : Nat} {a b : List Pg} {c : List Rc} {s : Int} {d : Bool} {x : AV} (h2 : getO (oR l p' :: T) 2 = some ⟨3, a.map pA⟩) (h3 : getO (oR l p' :: T) 3 = some ⟨3, b.map pA⟩) (hx : Rd0 [0] (oR l p' :: T) 1 x (recs c)) (hd : (⟨a, b, c, s, d⟩ : Eng).dr) (q1 : p ≤ p') (q2 : p' ≤ p + 1800) :
    Fin 1 (.agg [.own 2 3 0 5, .own 3 3 0 5, x, I s, Bo d]) (oR l p' :: T) [] (fun r S' mv => ∃ y : Eng × Nat, (y.1.dr ∧ p ≤ y.2 ∧ y.2 ≤ p + 1800) ∧ r = eA y.1 ∧ S' = [oR l y.2] ∧ mv = []) :=
  fin_drop [0] [] (by simp) rfl (by decide) (keep1 (ob := ⟨2, [.agg [bts l, I (p' : Int)]]⟩) rfl (a2_1 rfl)) (hdR (o := ⟨2, [.agg [bts l, I (p' : Int)]]⟩) rfl (by simp) rfl rfl)
    (.of _ _ (.agg _ _ (.cons _ _ _ _ (rd_pgs (by decide) (by decide) h2 hd.disk) (.cons _ _ _ _ (rd_pgs (by decide) (by decide) h3 hd.mem) (.cons _ _ _ _ hx (.cons _ _ _ _ (.rn _ _ (.same _ rfl)) (.cons _ _ _ _ (.rn _ _ (.same _ rfl)) .nil))))))) ⟨(⟨a, b, c, s, d⟩, p'), ⟨hd, q1, q2⟩, rfl, rfl, rfl⟩
theorem dr_mem {a b : List Pg} {c : List Rc} {s s' : Int} {d d' : Bool} (h : (⟨a, b, c, s, d⟩ : Eng).dr) (k : Nat) {q : Pg} (hq : q.vals.length ≤ 3) : (⟨a, b.set k q, c, s', d'⟩ : Eng).dr :=
  ⟨h.disk, by have := h.mem; simpa using this, h.log, h.dv, fun p hp => by
    rcases List.mem_or_eq_of_mem_set hp with h1 | rfl
    · exact h.mv p h1
    · exact hq⟩
theorem dr_disk {a b : List Pg} {c : List Rc} {s s' : Int} {d d' : Bool} (h : (⟨a, b, c, s, d⟩ : Eng).dr) (k : Nat) {q : Pg} (hq : q.vals.length ≤ 3) : (⟨a.set k q, b, c, s', d'⟩ : Eng).dr :=
  ⟨by have := h.disk; simpa using this, h.mem, h.log, fun p hp => by
    rcases List.mem_or_eq_of_mem_set hp with h1 | rfl
    · exact h.dv p h1
    · exact hq, h.mv⟩
theorem dr_log {a b : List Pg} {c c' : List Rc} {s s' : Int} {d d' : Bool} (h : (⟨a, b, c, s, d⟩ : Eng).dr) (hc : c'.length ≤ 152) : (⟨a, b, c', s', d'⟩ : Eng).dr := ⟨h.disk, h.mem, hc, h.dv, h.mv⟩
theorem l72Engine_c (l : List Int) (p : Nat) (hC : Cod l) (hp : p < 600000) : AFnX Tryz.prog 114 [.ref 0 2 0 0] [oR l p] (fun q : Eng × Nat => q.1.dr ∧ p ≤ q.2 ∧ q.2 ≤ p + 1800) (fun q => eA q.1) (fun q => [oR l q.2]) [] := by
  refine afnx_of Tryz.func114 rfl rfl ?_
  simp -implicitDefEqProofs only [go_sem, Tryz.f114]
  (repeat' (first | ((with_reducible first | refine gon ?_ ?_ | refine gos ?_ ?_ | refine cdn ?_ ?_ | refine cds ?_ ?_ | refine gpn ?_ ?_ | refine gps ?_ ?_) <;> intro h <;> (try simp only [dt, df, gi, gt] at h) <;> try simp -implicitDefEqProofs only [go_sem, *]) | ((with_reducible refine And.intro ?_ ?_); (· first | omega | (simp only [List.length_take]; omega)); try simp -implicitDefEqProofs only [go_sem, *]) | ((with_reducible refine enter_at [0] (M2 := []) (l71Play_c l p hC (by omega)) (by decide) ?_ ?_ rfl ?_); (· repeat (first | exact Keeps.nil | (refine Keeps.cons _ _ _ _ _ rfl rfl ?_ ?_; (· first | exact a2_p _ _ | exact a2_1 rfl | exact a2_I _ _)))); (· repeat (first | exact All2.nil | (refine All2.cons _ _ _ _ ?_ ?_; (· first | exact rnT_eX rfl rfl | exact rnT_prim | exact rnT_sl | exact rnT_ref rfl | exact rnT_agg rfl | exact rnT_own rfl | exact rnT_eX5 rfl rfl)))); rintro ⟨⟨ca, cb, cc, cs, cd⟩, p1⟩ ⟨hic, hp1, hp2⟩; try simp -implicitDefEqProofs only [go_sem, *])))
  simp only at hic hp1 hp2
  have hcl : cc.length ≤ 150 := hic.toInv.len
  have hdr := dr_of hic.toInv
  have ha5 : ca.length = 5 := hdr.disk
  have hb5 : cb.length = 5 := hdr.mem
  have hwr : IntKind.i64.wrap ((cc.length : Int) + 2) = (cc.length : Int) + 2 := wrap_ok (by omega) (by omega)
  (repeat' (first | ((with_reducible first | refine gon ?_ ?_ | refine gos ?_ ?_ | refine cdn ?_ ?_ | refine cds ?_ ?_ | refine gpn ?_ ?_ | refine gps ?_ ?_) <;> intro h <;> (try simp only [dt, df, gi, gt] at h) <;> try simp -implicitDefEqProofs only [go_sem, *]) | ((with_reducible refine And.intro ?_ ?_); (· first | omega | (simp only [List.length_take]; omega)); try simp -implicitDefEqProofs only [go_sem, *]) | first | ((with_reducible refine pick_at hC ?_ ?_ ?_); (· omega); (· first | decide | omega); rintro k1 hk1; try simp -implicitDefEqProofs only [go_sem, *]) | ((with_reducible refine at_reader (l71Log_c l _ hC (by omega)) (fun _ _ => rfl) ?_); rintro ⟨x, p2⟩ ⟨h0, h1, h2⟩; simp only at *; try simp -implicitDefEqProofs only [go_sem, *])))
  all_goals try (refine fin_eng rfl rfl (rd_recs (by decide) (by decide) rfl rfl) (dr_log hdr (by omega)) ?_ ?_ <;> omega)
  · refine cp_drawG (id := 6) 8 (fun S => getO S 5 = some ⟨5, [eL 2 3 4 ⟨ca, cb, cc, cs, cd⟩]⟩) mixed rfl ?_
    ((refine expG_get 0 (.ref 5 5 0 1) rfl ?_ ?_ ?_ ?_ ?_); (· decide +kernel); (· decide +kernel); (· rfl); (· (intro S hS0; simp -implicitDefEqProofs only [go_sem, hS0, *])); try simp -implicitDefEqProofs only [go_sem, List.set_cons_succ, List.set_cons_zero])
    ((refine expG_get 1 (.own 3 3 0 5) rfl ?_ ?_ ?_ ?_ ?_); (· decide +kernel); (· decide +kernel); (· rfl); (· (intro S hS0; simp -implicitDefEqProofs only [go_sem, hS0, *])); try simp -implicitDefEqProofs only [go_sem, List.set_cons_succ, List.set_cons_zero])
    ((refine expG_get 2 (.ref 0 2 0 0) rfl ?_ ?_ ?_ ?_ ?_); (· decide +kernel); (· decide +kernel); (· rfl); (· (intro S hS0; simp -implicitDefEqProofs only [go_sem, hS0, *])); try simp -implicitDefEqProofs only [go_sem, List.set_cons_succ, List.set_cons_zero])
    ((refine expG_get 4 (.ref 0 2 0 0) rfl ?_ ?_ ?_ ?_ ?_); (· decide +kernel); (· decide +kernel); (· rfl); (· (intro S hS0; simp -implicitDefEqProofs only [go_sem, hS0, *])); try simp -implicitDefEqProofs only [go_sem, List.set_cons_succ, List.set_cons_zero])
    ((with_reducible refine expG_one 3 ?_ ?_); (· decide +kernel); try simp -implicitDefEqProofs only [go_sem, *])
    ((with_reducible refine pick_at hC ?_ ?_ ?_); (· omega); (· first | decide | omega); rintro k2 hk2; try simp -implicitDefEqProofs only [go_sem, *])
    have hk2' : 0 ≤ k2 ∧ k2 < 5 := hk2
    ((with_reducible refine expG_one 5 ?_ ?_); (· decide +kernel); try simp -implicitDefEqProofs only [go_sem, *])
    ((with_reducible refine at_reader (l71Page_c l _ hC (by omega)) (fun _ _ => rfl) ?_); rintro ⟨x, p2⟩ ⟨h0, h1, h2⟩; simp only at *; try simp -implicitDefEqProofs only [go_sem, *])
    (repeat' (first | ((with_reducible first | refine gon ?_ ?_ | refine gos ?_ ?_ | refine cdn ?_ ?_ | refine cds ?_ ?_ | refine gpn ?_ ?_ | refine gps ?_ ?_) <;> intro h <;> (try simp only [dt, df, gi, gt] at h) <;> try simp -implicitDefEqProofs only [go_sem, *]) | ((with_reducible refine And.intro ?_ ?_); (· first | omega | (simp only [List.length_take]; omega)); try simp -implicitDefEqProofs only [go_sem, *]) | first | ((with_reducible refine expG_one 6 ?_ ?_); (· decide +kernel); try simp -implicitDefEqProofs only [go_sem, *]) | ((with_reducible refine expG_one 7 ?_ ?_); (· decide +kernel); try simp -implicitDefEqProofs only [go_sem, *]) | ((with_reducible refine expG_end ?_ ?_); (· decide +kernel); try simp -implicitDefEqProofs only [go_sem, *])))
    refine fin_eng rfl rfl (rd_recs (by decide) (by decide) rfl rfl) (dr_mem hdr _ h0) ?_ ?_ <;> omega
  · refine cp_drawG (id := 8) 8 (fun S => getO S 5 = some ⟨5, [eL 2 3 4 ⟨ca, cb, cc, cs, cd⟩]⟩) mixed rfl ?_
    ((refine expG_get 0 (.ref 5 5 0 0) rfl ?_ ?_ ?_ ?_ ?_); (· decide +kernel); (· decide +kernel); (· rfl); (· (intro S hS0; simp -implicitDefEqProofs only [go_sem, hS0, *])); try simp -implicitDefEqProofs only [go_sem, List.set_cons_succ, List.set_cons_zero])
    ((refine expG_get 1 (.own 2 3 0 5) rfl ?_ ?_ ?_ ?_ ?_); (· decide +kernel); (· decide +kernel); (· rfl); (· (intro S hS0; simp -implicitDefEqProofs only [go_sem, hS0, *])); try simp -implicitDefEqProofs only [go_sem, List.set_cons_succ, List.set_cons_zero])
    ((refine expG_get 2 (.ref 0 2 0 0) rfl ?_ ?_ ?_ ?_ ?_); (· decide +kernel); (· decide +kernel); (· rfl); (· (intro S hS0; simp -implicitDefEqProofs only [go_sem, hS0, *])); try simp -implicitDefEqProofs only [go_sem, List.set_cons_succ, List.set_cons_zero])
    ((refine expG_get 4 (.ref 0 2 0 0) rfl ?_ ?_ ?_ ?_ ?_); (· decide +kernel); (· decide +kernel); (· rfl); (· (intro S hS0; simp -implicitDefEqProofs only [go_sem, hS0, *])); try simp -implicitDefEqProofs only [go_sem, List.set_cons_succ, List.set_cons_zero])
    ((with_reducible refine expG_one 3 ?_ ?_); (· decide +kernel); try simp -implicitDefEqProofs only [go_sem, *])
    ((with_reducible refine pick_at hC ?_ ?_ ?_); (· omega); (· first | decide | omega); rintro k2 hk2; try simp -implicitDefEqProofs only [go_sem, *])
    have hk2' : 0 ≤ k2 ∧ k2 < 5 := hk2
    ((with_reducible refine expG_one 5 ?_ ?_); (· decide +kernel); try simp -implicitDefEqProofs only [go_sem, *])
    ((with_reducible refine at_reader (l71Page_c l _ hC (by omega)) (fun _ _ => rfl) ?_); rintro ⟨x, p2⟩ ⟨h0, h1, h2⟩; simp only at *; try simp -implicitDefEqProofs only [go_sem, *])
    (repeat' (first | ((with_reducible first | refine gon ?_ ?_ | refine gos ?_ ?_ | refine cdn ?_ ?_ | refine cds ?_ ?_ | refine gpn ?_ ?_ | refine gps ?_ ?_) <;> intro h <;> (try simp only [dt, df, gi, gt] at h) <;> try simp -implicitDefEqProofs only [go_sem, *]) | ((with_reducible refine And.intro ?_ ?_); (· first | omega | (simp only [List.length_take]; omega)); try simp -implicitDefEqProofs only [go_sem, *]) | first | ((with_reducible refine expG_one 6 ?_ ?_); (· decide +kernel); try simp -implicitDefEqProofs only [go_sem, *]) | ((with_reducible refine expG_one 7 ?_ ?_); (· decide +kernel); try simp -implicitDefEqProofs only [go_sem, *]) | ((with_reducible refine expG_end ?_ ?_); (· decide +kernel); try simp -implicitDefEqProofs only [go_sem, *])))
    refine fin_eng rfl rfl (rd_recs (by decide) (by decide) rfl rfl) (dr_disk hdr _ h0) ?_ ?_ <;> omega
  all_goals (refine fin_eng rfl rfl (.rn _ _ (.same _ rfl)) (dr_log hdr (by omega)) ?_ ?_ <;> omega)
theorem l6Open_c (l : List Int) (hl : l.length < 4611686018427387904) (hb : Byt l) : AFnX Tryz.prog 44 [bts l] [] (fun l' : List Int => Cod l') (fun _ => .ref 0 2 0 0) (fun l' => [oR l' 0]) [] :=
  AFn.mono (l6Open_fn l hl hb) fun r S' mv ⟨⟨l', h1, h2, h3⟩, h4⟩ => ⟨l', h1, h2, h3, h4⟩
/-- What a drawing hands back: no object. -/
abbrev FnX (f : FuncId) (args : List AV) {X : Type} (J : X → Prop) (R : X → AV) : Prop := AFnX Tryz.prog f args [] J R (fun _ => []) []
theorem fin_drawn {r r' : AV} {S : Store} {mv : List Nat} {Q : AV → Store → List Nat → Prop} (hr : RdT [] S 0 r r') (h : Q r' [] []) : Fin 0 r S mv Q :=
  fin_drop [] [] (by simp) rfl (by decide) (fun j i h => by cases h) (fun i hi => absurd hi (Nat.not_lt_zero _)) hr h
end Go.Proofs.YtjdebcankncfaaaGreat.Am
end
section
set_option linter.unusedVariables false
set_option linter.unusedSimpArgs false
set_option maxRecDepth 100000
set_option maxHeartbeats 8000000
namespace Go.Proofs.YtjdebcankncfaaaGreat.Am
open Go Go.RowKit Go.Proofs
attribute [local congr] opsP_congr codeP_congr AWP_congr afterR_congr preP_congr afterPre_congr gPre_congr gOps_congr condP_congr stepE_congr
attribute [local go_sem] ty_int ty_bool ty_str ty_u8 ty_ints ty_bytes ty_page ty_pages ty_lpage ty_lpages ty_rec ty_recs ty_lrec ty_lrecs ty_eng ty_leng
attribute [local go_sem] true_and and_true beq_true' beq_false' toNat_cast Int.natCast_nonneg Bool.not_not Bool.not_true Bool.not_false decide_true decide_false Bool.or_false Bool.false_or Bool.or_true Bool.true_or Bool.and_false Bool.false_and Nat.zero_add Int.toNat_of_nonneg wrap_succ wrap_m1 wrap_nat succ_m1 cast0 succ_pos' succ_ne' succ_bne' ge_iff_le gt_iff_lt if_true if_false
attribute [local go_sem] slt_r slt_I slt_p ty_rd ty_ev ty_evs
theorem dr_small {e : Eng} (h : e.dr) : e.small := ⟨by have := h.disk; omega, by have := h.mem; omega, by have := h.log; omega, fun p hp => by have := h.dv p hp; omega, fun p hp => by have := h.mv p hp; omega⟩
theorem okI (e : Eng) (h : e.small) : Fn1 Tryz.prog 47 [eA e] (Bo (okE e)) := EngineOkI_fn lastC lastOfC recC (pagesC lastC) e h.disk h.mem h.log h.dv h.mv
theorem okS (e : Eng) (h : e.small) : Fn1 Tryz.prog 19 [eA e] (Bo (okE e)) := EngineOkS_fn e h.disk h.mem h.log
end Go.Proofs.YtjdebcankncfaaaGreat.Am
end
section
set_option linter.unusedVariables false
set_option linter.unusedSimpArgs false
set_option maxRecDepth 100000
namespace Go.Proofs.YtjdebcankncfaaaGreat.Am
open Go Go.RowKit Go.Proofs Go.ChangeShapes Go.WideShapes
section
variable {H : Type} {enc : TypeId × Value → H} {w : World} {μ : Nat → Nat}
theorem opens_u8 : Opens enc w μ 5 1 bD (fun n => 0 ≤ n ∧ n < 256) := by
  intro fuel cs d ps h
  cases fuel with
  | zero => simp [DataW.trod] at h
  | succ fuel =>
    unfold DataW.trod at h
    rw [Tryz.underlying5] at h
    rcases cs with _ | ⟨v, _ | ⟨u, cs⟩⟩
    · simp at h
    · cases v <;> simp only [reduceCtorEq] at h
      rename_i k n
      split at h
      · rename_i hk
        obtain ⟨rfl, hwf⟩ := hk
        refine ⟨n, rfl, ?_, fun _ => ?_⟩
        · rintro (_ | j) y hy
          · simp [bD_cells] at hy; subst hy; exact ⟨_, rfl, .prim _ rfl⟩
          · simp [bD_cells] at hy
        · have h1 : IntKind.u8.min = 0 := rfl
          have h2 : IntKind.u8.max = 255 := rfl
          simp only [Lit.wf, Bool.and_eq_true, decide_eq_true_eq] at hwf
          omega
      · cases h
    · simp at h
theorem opens_bytes : Opens enc w μ 41 1 (fun l : List Int => .sl 1 (l.map bD)) (fun l => l.length < 4611686018427387904 ∧ ∀ a ∈ l, 0 ≤ a ∧ a < 256) :=
  opens_sl opens_u8 Tryz.underlying41 (by kernel_rfl) (by decide) (Nat.le_trans (by decide) (Nat.le_of_eq (by kernel_rfl : (1 : Nat) = _))) (fun a => ⟨rfl, by simp [bD_cells]; rfl⟩)
/-- A code that is an argument. -/
theorem open_bytes {r : Reach} {b0 : Nat} {v : Value} {d : DataW H} {ps : List MemPlace} (hval : Value.okWide Tryz.prog w r b0 41 v) (hd : DataW.Trod enc Tryz.prog w 0 (fun _ => true) true 41 v d ps)
    (hw : (d.weights Tryz.prog 41).all (· ≤ reachBytes) = true) : ∃ l : List Int, l.length < 4611686018427387904 ∧ Byt l ∧ Rep okT w (fun i => i) [] (bts l) v := by
  obtain ⟨a, len, cap, rfl⟩ := okWide_slice Tryz.underlying41 hval
  obtain ⟨fuel, hf⟩ := hd
  obtain ⟨l, hl, hr, hq⟩ := opens_bytes (μ := fun i => i) _ _ _ _ hf
  obtain ⟨q1, q2⟩ := hq hw
  refine ⟨l, q1, fun k hk => q2 _ (at_mem l k hk), ?_⟩
  obtain ⟨u, hu, hR⟩ := hr 0 _ rfl
  simp [Value.cells] at hu
  subst hu
  exact .sl _ _ _ hR
end
end Go.Proofs.YtjdebcankncfaaaGreat.Am
end
section
set_option linter.unusedVariables false
set_option linter.unusedSimpArgs false
set_option maxRecDepth 100000
set_option maxHeartbeats 8000000
namespace Go.Proofs.YtjdebcankncfaaaGreat.Am
open Go Go.RowKit Go.Proofs
attribute [local go_sem_proc] Nat.reduceAdd Nat.reduceSub Nat.reduceMul Nat.reduceLT Nat.reduceLeDiff Nat.reduceEqDiff Int.reduceBEq Int.reduceBNe Int.reduceNeg Int.reduceSub Int.reduceLE Int.reduceLT
attribute [local go_sem_proc ↓] reduceIte
attribute [local congr] opsP_congr codeP_congr AWP_congr afterR_congr preP_congr afterPre_congr gPre_congr gOps_congr condP_congr stepE_congr
attribute [local go_sem] ty_int ty_bool ty_str ty_u8 ty_ints ty_bytes ty_page ty_pages ty_lpage ty_lpages ty_rec ty_recs ty_lrec ty_lrecs ty_eng ty_leng
attribute [local go_sem] true_and and_true beq_true' beq_false' toNat_cast Int.natCast_nonneg Bool.not_not Bool.not_true Bool.not_false decide_true decide_false Bool.or_false Bool.false_or Bool.or_true Bool.true_or Bool.and_false Bool.false_and Nat.zero_add Int.toNat_of_nonneg wrap_succ wrap_m1 wrap_nat succ_m1 cast0 succ_pos' succ_ne' succ_bne' ge_iff_le gt_iff_lt if_true if_false
attribute [local go_sem] slt_r slt_I slt_p
theorem ltInts_fn (a b : List Int) (hb : a.length < 4611686018427387904) : Fn1 Tryz.prog 17 [ints a, ints b] (Bo (sameInts a b)) := by
  refine fn1_of Tryz.func17 rfl rfl ?_
  simp -implicitDefEqProofs only [go_sem, Tryz.f17]
  (repeat' (first | ((with_reducible first | refine gon ?_ ?_ | refine gos ?_ ?_ | refine cdn ?_ ?_ | refine cds ?_ ?_ | refine gpn ?_ ?_ | refine gps ?_ ?_) <;> intro h <;> (try simp only [dt, df, gi, gt] at h) <;> try simp -implicitDefEqProofs only [go_sem, *]) | ((with_reducible refine And.intro ?_ ?_); (· first | omega | (simp only [List.length_take]; omega)); try simp -implicitDefEqProofs only [go_sem, *]) | fail))
  all_goals try ((with_reducible refine fin_pu ?_ ?_); (· (simp_all [sameInts]) <;> (first | omega | (rw [Bool.eq_iff_iff]; simp; done) | (rw [Bool.eq_iff_iff]; simp; omega) | (split <;> (first | rfl | omega | (simp_all; done))))); (· rfl))
  · have hl : a.length = b.length := by have := h; simp at this; omega
    refine cp_loop (fun i : Nat => ⟨(ints a :: ints b :: .any :: .any :: Bo false :: I (i : Int) :: .any :: .any :: .any :: .any :: .any :: .any :: .any :: .any :: .any :: .any :: .any :: .any :: .any :: .any :: .any :: .any :: .any :: .any :: .any :: .any :: []), [], []⟩) (fun i => i ≤ a.length ∧ allFrom (fun k => at' a (k : Int) == at' b (k : Int)) i a.length = sameInts a b) (fun i => a.length - i) 0 ?_ ?_ ?_
    · exact ⟨by omega, by simp [sameInts, hl]⟩
    · refine wk_tm ?_; repeat (first | exact WL.nil | (with_reducible refine WL.any _ _ _ ?_) | (with_reducible refine WL.same _ _ _ ?_) | (refine WL.eq _ _ _ _ rfl ?_))
    · rintro i ⟨hi, hg⟩
      have hbi : i < 4611686018427387904 := by omega
      simp -implicitDefEqProofs only [go_sem, true_and]
      (repeat' (first | ((with_reducible first | refine gon ?_ ?_ | refine gos ?_ ?_ | refine cdn ?_ ?_ | refine cds ?_ ?_ | refine gpn ?_ ?_ | refine gps ?_ ?_) <;> intro h <;> (try simp only [dt, df, gi, gt] at h) <;> try simp -implicitDefEqProofs only [go_sem, *]) | ((with_reducible refine And.intro ?_ ?_); (· first | omega | (simp only [List.length_take]; omega)); try simp -implicitDefEqProofs only [go_sem, *]) | ((with_reducible refine cp_draw (id := 6) 9 mixed ?_ ?_ ?_); (· decide +kernel); (· first | (simp only [List.all_cons, List.all_nil, List.length_cons, List.length_nil, Nat.reduceAdd, Nat.reduceLT, decide_true, Bool.and_true, Bool.and_self]; done) | rfl); try simp -implicitDefEqProofs only [go_sem, *])))
      all_goals first
        | ((with_reducible refine fin_pu ?_ ?_); (· (rw [← hg, allFrom_lt (by omega : i < a.length)]; clear hg; simp_all; done)); (· rfl))
        | ((with_reducible refine fin_pu ?_ ?_); (· (rw [← hg, allFrom_ge (by omega : ¬ i < a.length)]; done)); (· rfl))
        | ((with_reducible refine ⟨i + 1, ⟨by omega, ?_⟩, by omega, ?_⟩); (· (rw [← hg, allFrom_lt (by omega : i < a.length)]; clear hg; simp_all)); (· refine wk_tm ?_; repeat (first | exact WL.nil | (with_reducible refine WL.any _ _ _ ?_) | (with_reducible refine WL.same _ _ _ ?_) | (refine WL.eq _ _ _ _ rfl ?_))))
end Go.Proofs.YtjdebcankncfaaaGreat.Am
end
section
set_option linter.unusedVariables false
set_option linter.unusedSimpArgs false
set_option maxRecDepth 100000
set_option maxHeartbeats 8000000
namespace Go.Proofs.YtjdebcankncfaaaGreat.Am
open Go Go.RowKit Go.Proofs
attribute [local congr] opsP_congr codeP_congr AWP_congr afterR_congr preP_congr afterPre_congr gPre_congr gOps_congr condP_congr stepE_congr
attribute [local go_sem] ty_int ty_bool ty_str ty_u8 ty_ints ty_bytes ty_page ty_pages ty_lpage ty_lpages ty_rec ty_recs ty_lrec ty_lrecs ty_eng ty_leng
attribute [local go_sem] true_and and_true beq_true' beq_false' toNat_cast Int.natCast_nonneg Bool.not_not Bool.not_true Bool.not_false decide_true decide_false Bool.or_false Bool.false_or Bool.or_true Bool.true_or Bool.and_false Bool.false_and Nat.zero_add Int.toNat_of_nonneg wrap_succ wrap_m1 wrap_nat succ_m1 cast0 succ_pos' succ_ne' succ_bne' ge_iff_le gt_iff_lt if_true if_false
section
attribute [local go_sem] slt_r slt_I slt_p
def openL (l : List Rc) : List Int := if logOk l = true then openTo l 3 else []
def lockE (e : Eng) (page : Int) : Nat := if okE e = true ∧ isIn page 0 4 = true then lockFrom e.log page 0 else 0
end
section
attribute [local go_sem] slt_r slt_I slt_p ty_rd ty_ev ty_evs
end
end Go.Proofs.YtjdebcankncfaaaGreat.Am
end
section
set_option linter.unusedVariables false
set_option linter.unusedSimpArgs false
set_option maxRecDepth 100000
set_option maxHeartbeats 8000000
namespace Go.Proofs.YtjdebcankncfaaaGreat.Am
open Go Go.RowKit Go.Proofs
attribute [local go_sem_proc] Nat.reduceAdd Nat.reduceSub Nat.reduceMul Nat.reduceLT Nat.reduceLeDiff Nat.reduceEqDiff Int.reduceBEq Int.reduceBNe Int.reduceNeg Int.reduceSub Int.reduceLE Int.reduceLT
attribute [local go_sem_proc ↓] reduceIte
attribute [local congr] opsP_congr codeP_congr AWP_congr afterR_congr preP_congr afterPre_congr gPre_congr gOps_congr condP_congr stepE_congr
attribute [local go_sem] ty_int ty_bool ty_str ty_u8 ty_ints ty_bytes ty_page ty_pages ty_lpage ty_lpages ty_rec ty_recs ty_lrec ty_lrecs ty_eng ty_leng
attribute [local go_sem] true_and and_true beq_true' beq_false' toNat_cast Int.natCast_nonneg Bool.not_not Bool.not_true Bool.not_false decide_true decide_false Bool.or_false Bool.false_or Bool.or_true Bool.true_or Bool.and_false Bool.false_and Nat.zero_add Int.toNat_of_nonneg wrap_succ wrap_m1 wrap_nat succ_m1 cast0 succ_pos' succ_ne' succ_bne' ge_iff_le gt_iff_lt if_true if_false
attribute [local go_sem] slt_r slt_I slt_p ty_rd ty_ev ty_evs
theorem LogOpenS_fn (l : List Rc) (hl : l.length < 4611686018427387904) : Fn1 Tryz.prog 115 [recs l] (ints (openL l)) := by
  have c1 := LogOk_fn l hl
  refine fn1_of Tryz.func115 rfl rfl ?_
  unfold openL
  rcases hok : logOk l with _ | _
  · rw [hok] at c1
    simp -implicitDefEqProofs only [go_sem, Tryz.f115]
    (repeat' (first | ((with_reducible first | refine gon ?_ ?_ | refine gos ?_ ?_ | refine cdn ?_ ?_ | refine cds ?_ ?_ | refine gpn ?_ ?_ | refine gps ?_ ?_) <;> intro h <;> (try simp only [dt, df, gi, gt] at h) <;> try simp -implicitDefEqProofs only [go_sem, *]) | ((with_reducible refine And.intro ?_ ?_); (· first | omega | (simp only [List.length_take]; omega)); try simp -implicitDefEqProofs only [go_sem, *]) | ((with_reducible refine enter_pu (c1) ?_ ?_ ?_); (· rfl); (· rfl); try simp -implicitDefEqProofs only [go_sem, *])))
    exact fin_1 (argT0 (arg0_I (l := []) rfl rfl))
  · rw [hok] at c1
    rw [if_pos rfl]
    simp -implicitDefEqProofs only [go_sem, Tryz.f115]
    (repeat' (first | ((with_reducible first | refine gon ?_ ?_ | refine gos ?_ ?_ | refine cdn ?_ ?_ | refine cds ?_ ?_ | refine gpn ?_ ?_ | refine gps ?_ ?_) <;> intro h <;> (try simp only [dt, df, gi, gt] at h) <;> try simp -implicitDefEqProofs only [go_sem, *]) | ((with_reducible refine And.intro ?_ ?_); (· first | omega | (simp only [List.length_take]; omega)); try simp -implicitDefEqProofs only [go_sem, *]) | ((with_reducible refine enter_pu (c1) ?_ ?_ ?_); (· rfl); (· rfl); try simp -implicitDefEqProofs only [go_sem, *])))
    clear c1
    refine cp_loop (fun t : Nat => ⟨(recs l :: .any :: nilS :: .own 0 1 0 (openTo l t).length :: I (((t + 1 : Nat) : Int)) :: .any :: .any :: .any :: .any :: .any :: .any :: .any :: .any :: .any :: .any :: .any :: .any :: .any :: .any :: .any :: .any :: .any :: .any :: []), [some ⟨1, (openTo l t).map I⟩], [0]⟩) (fun t => t ≤ 3) (fun t => 3 - t) 0 ?_ ?_ ?_
    · simp
    · refine WkN.trans (WkN.trans (wk_tm ?_) (wk_trunc (S := [some ⟨1, _⟩]) (Nat.le_refl _) rfl (by first | rfl | (simp only [sltB, List.all_cons, List.all_nil, slt_p, slt_I, slt_r, Bool.and_true]; done) | (simp only [sltB, List.all_cons, List.all_nil, slt_p, slt_I, slt_r, Bool.and_true]; rfl)))) (wk_mv (by simp)); repeat (first | exact WL.nil | (with_reducible refine WL.any _ _ _ ?_) | (with_reducible refine WL.same _ _ _ ?_) | (refine WL.eq _ _ _ _ rfl ?_))
    · rintro t hi
      have hb : t + 1 < 4611686018427387904 := by omega
      have hlen := openTo_len l t
      have c3 := l3Last_fn l ((t + 1 : Nat) : Int) hl
      simp -implicitDefEqProofs only [go_sem, true_and]
      (repeat' (first | ((with_reducible first | refine gon ?_ ?_ | refine gos ?_ ?_ | refine cdn ?_ ?_ | refine cds ?_ ?_ | refine gpn ?_ ?_ | refine gps ?_ ?_) <;> intro h <;> (try simp only [dt, df, gi, gt] at h) <;> try simp -implicitDefEqProofs only [go_sem, *]) | ((with_reducible refine And.intro ?_ ?_); (· first | omega | (simp only [List.length_take]; omega)); try simp -implicitDefEqProofs only [go_sem, *]) | ((with_reducible refine enter_pu (c3) ?_ ?_ ?_); (· rfl); (· rfl); try simp -implicitDefEqProofs only [go_sem, *])))
      · have e : openTo l (t + 1) = openTo l t ++ [((t + 1 : Nat) : Int)] := if_neg (by omega)
        refine ⟨t + 1, by omega, by omega, ?_⟩
        simp only [e, List.length_append, List.length_cons, List.length_nil]
        refine WkN.trans (WkN.trans (wk_tm ?_) (wk_trunc (S := [some ⟨1, _⟩]) (Nat.le_refl _) rfl (by first | rfl | (simp only [sltB, List.all_cons, List.all_nil, slt_p, slt_I, slt_r, Bool.and_true]; done) | (simp only [sltB, List.all_cons, List.all_nil, slt_p, slt_I, slt_r, Bool.and_true]; rfl)))) (wk_mv (by simp)); repeat (first | exact WL.nil | (with_reducible refine WL.any _ _ _ ?_) | (with_reducible refine WL.same _ _ _ ?_) | (refine WL.eq _ _ _ _ rfl ?_))
      · have e : openTo l (t + 1) = openTo l t := if_pos (by omega)
        refine ⟨t + 1, by omega, by omega, ?_⟩
        simp only [e]
        refine wk_tm ?_; repeat (first | exact WL.nil | (with_reducible refine WL.any _ _ _ ?_) | (with_reducible refine WL.same _ _ _ ?_) | (refine WL.eq _ _ _ _ rfl ?_))
      · have e : t = 3 := by omega
        subst e
        exact fin_1 (argT0 (arg0_I rfl rfl))
theorem EngineLockS_fn (e : Eng) (page : Int) (h : e.small) : Fn1 Tryz.prog 83 [eA e, I page] (I (lockE e page)) := by
  have c1 := okS e h
  have c2 := l6In_fn page 0 4
  refine fn1_of Tryz.func83 rfl rfl ?_
  unfold lockE
  rcases hok : okE e with _ | _
  · rw [if_neg (by simp)]
    rw [hok] at c1
    simp -implicitDefEqProofs only [go_sem, Tryz.f83]
    (repeat' (first | ((with_reducible first | refine gon ?_ ?_ | refine gos ?_ ?_ | refine cdn ?_ ?_ | refine cds ?_ ?_ | refine gpn ?_ ?_ | refine gps ?_ ?_) <;> intro h <;> (try simp only [dt, df, gi, gt] at h) <;> try simp -implicitDefEqProofs only [go_sem, *]) | ((with_reducible refine And.intro ?_ ?_); (· first | omega | (simp only [List.length_take]; omega)); try simp -implicitDefEqProofs only [go_sem, *]) | first | ((with_reducible refine enter_pu (c1) ?_ ?_ ?_); (· rfl); (· rfl); try simp -implicitDefEqProofs only [go_sem, *]) | ((with_reducible refine enter_pu (c2) ?_ ?_ ?_); (· rfl); (· rfl); try simp -implicitDefEqProofs only [go_sem, *])))
    exact fin_pu rfl rfl
  rw [hok] at c1
  rcases hin : isIn page 0 4 with _ | _
  · rw [if_neg (by simp)]
    rw [hin] at c2
    simp -implicitDefEqProofs only [go_sem, Tryz.f83]
    (repeat' (first | ((with_reducible first | refine gon ?_ ?_ | refine gos ?_ ?_ | refine cdn ?_ ?_ | refine cds ?_ ?_ | refine gpn ?_ ?_ | refine gps ?_ ?_) <;> intro h <;> (try simp only [dt, df, gi, gt] at h) <;> try simp -implicitDefEqProofs only [go_sem, *]) | ((with_reducible refine And.intro ?_ ?_); (· first | omega | (simp only [List.length_take]; omega)); try simp -implicitDefEqProofs only [go_sem, *]) | first | ((with_reducible refine enter_pu (c1) ?_ ?_ ?_); (· rfl); (· rfl); try simp -implicitDefEqProofs only [go_sem, *]) | ((with_reducible refine enter_pu (c2) ?_ ?_ ?_); (· rfl); (· rfl); try simp -implicitDefEqProofs only [go_sem, *])))
    exact fin_pu rfl rfl
  rw [hin] at c2
  rw [if_pos ⟨rfl, rfl⟩]
  have c3 := l11Lock_fn e page (inv_of_ok hok).wf
  simp -implicitDefEqProofs only [go_sem, Tryz.f83]
  (repeat' (first | ((with_reducible first | refine gon ?_ ?_ | refine gos ?_ ?_ | refine cdn ?_ ?_ | refine cds ?_ ?_ | refine gpn ?_ ?_ | refine gps ?_ ?_) <;> intro h <;> (try simp only [dt, df, gi, gt] at h) <;> try simp -implicitDefEqProofs only [go_sem, *]) | ((with_reducible refine And.intro ?_ ?_); (· first | omega | (simp only [List.length_take]; omega)); try simp -implicitDefEqProofs only [go_sem, *]) | first | ((with_reducible refine enter_pu (c1) ?_ ?_ ?_); (· rfl); (· rfl); try simp -implicitDefEqProofs only [go_sem, *]) | ((with_reducible refine enter_pu (c2) ?_ ?_ ?_); (· rfl); (· rfl); try simp -implicitDefEqProofs only [go_sem, *]) | ((with_reducible refine enter_pu (c3) ?_ ?_ ?_); (· rfl); (· rfl); try simp -implicitDefEqProofs only [go_sem, *])))
  exact fin_pu rfl rfl
theorem fin_up {l : List Int} {T : Store} {p p' : Nat} {e : Eng} (hd : e.dr) (q1 : p ≤ p') (q2 : p' ≤ p + 12000) :
    Fin 1 (eA e) (oR l p' :: T) [] (fun r S' mv => ∃ y : Eng × Nat, (y.1.dr ∧ p ≤ y.2 ∧ y.2 ≤ p + 12000) ∧ r = eA y.1 ∧ S' = [oR l y.2] ∧ mv = []) :=
  fin_drop [0] [] (by simp) rfl (by decide) (keep1 (ob := ⟨2, [.agg [bts l, I (p' : Int)]]⟩) rfl (a2_1 rfl)) (hdR (o := ⟨2, [.agg [bts l, I (p' : Int)]]⟩) rfl (by simp) rfl rfl)
    (rd_same rfl) ⟨(e, p'), ⟨hd, q1, q2⟩, rfl, rfl, rfl⟩
theorem l72Up_c (l : List Int) (p : Nat) (hC : Cod l) (hp : p < 500000) : AFnX Tryz.prog 82 [.ref 0 2 0 0] [oR l p] (fun q : Eng × Nat => q.1.dr ∧ p ≤ q.2 ∧ q.2 ≤ p + 12000) (fun q => eA q.1) (fun q => [oR l q.2]) [] := by
  refine afnx_of Tryz.func82 rfl rfl ?_
  simp -implicitDefEqProofs only [go_sem, Tryz.f82]
  (repeat' (first | ((with_reducible first | refine gon ?_ ?_ | refine gos ?_ ?_ | refine cdn ?_ ?_ | refine cds ?_ ?_ | refine gpn ?_ ?_ | refine gps ?_ ?_) <;> intro h <;> (try simp only [dt, df, gi, gt] at h) <;> try simp -implicitDefEqProofs only [go_sem, *]) | ((with_reducible refine And.intro ?_ ?_); (· first | omega | (simp only [List.length_take]; omega)); try simp -implicitDefEqProofs only [go_sem, *]) | ((with_reducible refine at_reader (l72Engine_c l p hC (by omega)) (fun _ _ => rfl) ?_); rintro ⟨e, p2⟩ ⟨h0, h1, h2⟩; simp only at *; try simp -implicitDefEqProofs only [go_sem, *])))
  refine cp_loop (fun q : Nat × Nat × Eng => ⟨(.ref 0 2 0 0 :: .any :: .ref 1 5 0 0 :: .ref 2 5 0 0 :: I (q.1 : Int) :: .any :: .any :: .any :: .any :: .any :: .any :: .any :: .any :: .any :: .any :: .any :: .any :: .any :: .any :: .any :: .any :: .any :: .any :: .any :: .any :: .any :: .any :: .any :: .any :: .any :: []), [oR l q.2.1, some ⟨5, [.agg [.prim (.slice none 0 0), .prim (.slice none 0 0), .prim (.slice none 0 0), I 0, Bo false]]⟩, some ⟨5, [eA q.2.2]⟩], []⟩) (fun q => q.1 ≤ 5 ∧ q.2.2.dr ∧ p ≤ q.2.1 ∧ q.2.1 ≤ p + 1800 + 1801 * q.1) (fun q => 5 - q.1) (0, p2, e) ?_ ?_ ?_
  · exact ⟨by simp only; omega, h0, by simp only; omega, by simp only; omega⟩
  · refine wk_tm ?_; repeat (first | exact WL.nil | (with_reducible refine WL.any _ _ _ ?_) | (with_reducible refine WL.same _ _ _ ?_) | (refine WL.eq _ _ _ _ rfl ?_))
  · rintro ⟨i, p', e'⟩ ⟨hi, hdr, hp1, hp2⟩
    simp only at hi hdr hp1 hp2
    clear h0 h1 h2
    have hib : i < 4611686018427387904 := by omega
    obtain ⟨ea, eb, ec, es, ed⟩ := e'
    have c1 := LogOpenS_fn ec (dr_small hdr).log
    simp only
    by_cases hil : i < 5
    · have hl1 : (i : Int) < 5 := by omega
      rcases ed with _ | _
      all_goals
       simp -implicitDefEqProofs only [go_sem, hl1, hib]
       (repeat' (first | ((with_reducible first | refine gon ?_ ?_ | refine gos ?_ ?_ | refine cdn ?_ ?_ | refine cds ?_ ?_ | refine gpn ?_ ?_ | refine gps ?_ ?_) <;> intro h <;> (try simp only [dt, df, gi, gt] at h) <;> try simp -implicitDefEqProofs only [go_sem, *]) | ((with_reducible refine And.intro ?_ ?_); (· first | omega | (simp only [List.length_take]; omega)); try simp -implicitDefEqProofs only [go_sem, *]) | first | ((with_reducible refine pick_at hC ?_ ?_ ?_); (· omega); (· first | decide | omega); rintro k hk; try simp -implicitDefEqProofs only [go_sem, *]) | ((with_reducible refine enter_pu (c1) ?_ ?_ ?_); (· rfl); (· rfl); try simp -implicitDefEqProofs only [go_sem, *]) | ((with_reducible refine at_reader (l72Engine_c l (p' + 1) hC (by omega)) (fun _ _ => rfl) ?_); rintro ⟨e2, p3⟩ ⟨h0, h1, h2⟩; simp only at *; try simp -implicitDefEqProofs only [go_sem, *])))
       all_goals first
        | exact fin_up hdr (by omega) (by omega)
        | (refine ⟨(i + 1, p3, e2), ⟨by simp only; omega, h0, by simp only; omega, by simp only; omega⟩, by simp only; omega, ?_⟩; refine wk_tm ?_; repeat (first | exact WL.nil | (with_reducible refine WL.any _ _ _ ?_) | (with_reducible refine WL.same _ _ _ ?_) | (refine WL.eq _ _ _ _ rfl ?_)))
    · have hl1 : ¬ (i : Int) < 5 := by omega
      simp -implicitDefEqProofs only [go_sem, hl1]
      (repeat' (first | ((with_reducible first | refine gon ?_ ?_ | refine gos ?_ ?_ | refine cdn ?_ ?_ | refine cds ?_ ?_ | refine gpn ?_ ?_ | refine gps ?_ ?_) <;> intro h <;> (try simp only [dt, df, gi, gt] at h) <;> try simp -implicitDefEqProofs only [go_sem, *]) | ((with_reducible refine And.intro ?_ ?_); (· first | omega | (simp only [List.length_take]; omega)); try simp -implicitDefEqProofs only [go_sem, *]) | fail))
      exact fin_up hdr (by omega) (by omega)
end Go.Proofs.YtjdebcankncfaaaGreat.Am
end
section
set_option linter.unusedVariables false
set_option linter.unusedSimpArgs false
set_option maxRecDepth 100000
set_option maxHeartbeats 8000000
namespace Go.Proofs.YtjdebcankncfaaaGreat.Am
open Go Go.RowKit Go.Proofs
attribute [local congr] opsP_congr codeP_congr AWP_congr afterR_congr preP_congr afterPre_congr gPre_congr gOps_congr condP_congr stepE_congr
attribute [local go_sem] ty_int ty_bool ty_str ty_u8 ty_ints ty_bytes ty_page ty_pages ty_lpage ty_lpages ty_rec ty_recs ty_lrec ty_lrecs ty_eng ty_leng
attribute [local go_sem] true_and and_true beq_true' beq_false' toNat_cast Int.natCast_nonneg Bool.not_not Bool.not_true Bool.not_false decide_true decide_false Bool.or_false Bool.false_or Bool.or_true Bool.true_or Bool.and_false Bool.false_and Nat.zero_add Int.toNat_of_nonneg wrap_succ wrap_m1 wrap_nat succ_m1 cast0 succ_pos' succ_ne' succ_bne' ge_iff_le gt_iff_lt if_true if_false
attribute [local go_sem] slt_r slt_I slt_p ty_rd ty_ev ty_evs
end Go.Proofs.YtjdebcankncfaaaGreat.Am
end
section
set_option linter.unusedVariables false
set_option linter.unusedSimpArgs false
set_option maxRecDepth 100000
set_option maxHeartbeats 8000000
namespace Go.Proofs.YtjdebcankncfaaaGreat.Am
open Go Go.RowKit Go.Proofs
attribute [local go_sem_proc] Nat.reduceAdd Nat.reduceSub Nat.reduceMul Nat.reduceLT Nat.reduceLeDiff Nat.reduceEqDiff Int.reduceBEq Int.reduceBNe Int.reduceNeg Int.reduceSub Int.reduceLE Int.reduceLT
attribute [local go_sem_proc ↓] reduceIte
attribute [local congr] opsP_congr codeP_congr AWP_congr afterR_congr preP_congr afterPre_congr gPre_congr gOps_congr condP_congr stepE_congr
attribute [local go_sem] ty_int ty_bool ty_str ty_u8 ty_ints ty_bytes ty_page ty_pages ty_lpage ty_lpages ty_rec ty_recs ty_lrec ty_lrecs ty_eng ty_leng
attribute [local go_sem] true_and and_true beq_true' beq_false' toNat_cast Int.natCast_nonneg Bool.not_not Bool.not_true Bool.not_false decide_true decide_false Bool.or_false Bool.false_or Bool.or_true Bool.true_or Bool.and_false Bool.false_and Nat.zero_add Int.toNat_of_nonneg wrap_succ wrap_m1 wrap_nat succ_m1 cast0 succ_pos' succ_ne' succ_bne' ge_iff_le gt_iff_lt if_true if_false
section
attribute [local go_sem] slt_r slt_I slt_p ty_rd ty_ev ty_evs
def amongB (l : List Int) (n : Int) : Bool := anyFrom (fun k => at' l k == n) 0 l.length
theorem ltAmong_fn (l : List Int) (n : Int) (hl : l.length < 4611686018427387904) : Fn1 Tryz.prog 21 [ints l, I n] (Bo (amongB l n)) := by
  refine fn1_of Tryz.func21 rfl rfl ?_
  simp -implicitDefEqProofs only [go_sem, Tryz.f21]
  refine cp_loop (fun i : Nat => ⟨(ints l :: I n :: .any :: .any :: Bo false :: I (i : Int) :: .any :: .any :: .any :: .any :: .any :: .any :: .any :: .any :: .any :: .any :: .any :: .any :: []), [], []⟩) (fun i => i ≤ l.length ∧ anyFrom (fun k => at' l k == n) i l.length = amongB l n) (fun i => l.length - i) 0 ?_ ?_ ?_
  · exact ⟨Nat.zero_le _, rfl⟩
  · refine wk_tm ?_; repeat (first | exact WL.nil | (with_reducible refine WL.any _ _ _ ?_) | (with_reducible refine WL.same _ _ _ ?_) | (refine WL.eq _ _ _ _ rfl ?_))
  · rintro i ⟨hi, hg⟩
    have hb : i < 4611686018427387904 := by omega
    by_cases hil : i < l.length
    · have hil' : (i : Int) < (l.length : Int) := by omega
      rw [anyFrom_lt hil] at hg
      rcases h : at' l (i : Int) == n with _ | _
      · simp -implicitDefEqProofs only [go_sem, hil']
        (repeat' (first | ((with_reducible first | refine gon ?_ ?_ | refine gos ?_ ?_ | refine cdn ?_ ?_ | refine cds ?_ ?_ | refine gpn ?_ ?_ | refine gps ?_ ?_) <;> intro h <;> (try simp only [dt, df, gi, gt] at h) <;> try simp -implicitDefEqProofs only [go_sem, *]) | ((with_reducible refine And.intro ?_ ?_); (· first | omega | (simp only [List.length_take]; omega)); try simp -implicitDefEqProofs only [go_sem, *]) | fail))
        refine ⟨i + 1, ⟨by omega, ?_⟩, by omega, ?_⟩
        · rw [← hg, h, Bool.false_or]
        · refine wk_tm ?_; repeat (first | exact WL.nil | (with_reducible refine WL.any _ _ _ ?_) | (with_reducible refine WL.same _ _ _ ?_) | (refine WL.eq _ _ _ _ rfl ?_))
      · simp -implicitDefEqProofs only [go_sem, hil']
        (repeat' (first | ((with_reducible first | refine gon ?_ ?_ | refine gos ?_ ?_ | refine cdn ?_ ?_ | refine cds ?_ ?_ | refine gpn ?_ ?_ | refine gps ?_ ?_) <;> intro h <;> (try simp only [dt, df, gi, gt] at h) <;> try simp -implicitDefEqProofs only [go_sem, *]) | ((with_reducible refine And.intro ?_ ?_); (· first | omega | (simp only [List.length_take]; omega)); try simp -implicitDefEqProofs only [go_sem, *]) | fail))
        refine fin_pu ?_ rfl
        rw [← hg, h]
        rfl
    · have hil' : ¬ (i : Int) < (l.length : Int) := by omega
      rw [anyFrom_ge hil] at hg
      simp -implicitDefEqProofs only [go_sem, hil']
      (repeat' (first | ((with_reducible first | refine gon ?_ ?_ | refine gos ?_ ?_ | refine cdn ?_ ?_ | refine cds ?_ ?_ | refine gpn ?_ ?_ | refine gps ?_ ?_) <;> intro h <;> (try simp only [dt, df, gi, gt] at h) <;> try simp -implicitDefEqProofs only [go_sem, *]) | ((with_reducible refine And.intro ?_ ?_); (· first | omega | (simp only [List.length_take]; omega)); try simp -implicitDefEqProofs only [go_sem, *]) | fail))
      refine fin_pu ?_ rfl
      rw [← hg]
theorem among_iff {l : List Int} {n : Int} : amongB l n = true ↔ n ∈ l := by
  unfold amongB
  rw [anyFrom_iff]
  constructor
  · rintro ⟨k, _, h1, h2⟩
    have : at' l (k : Int) = n := by simpa using h2
    rw [← this]
    exact at_mem l k h1
  · intro h
    obtain ⟨k, hk, e⟩ := List.mem_iff_getElem.1 h
    exact ⟨k, Nat.zero_le _, hk, by simp [at', List.getD, hk, e]⟩
end
section
attribute [local go_sem] slt_r slt_I slt_p ty_rd ty_ev ty_evs
def zeroE : Eng := ⟨[], [], [], 0, false⟩
theorem rd_ez {S : Store} {b : Bool} : RdT [] S 0 (.tup [.agg [.prim (.slice none 0 0), .prim (.slice none 0 0), .prim (.slice none 0 0), I 0, Bo false], Bo b]) (.tup [eA zeroE, Bo b]) :=
  .tup _ _ (.cons _ _ _ _ (.agg _ _ (.cons _ _ _ _ (.nil 3 (by decide)) (.cons _ _ _ _ (.nil 3 (by decide)) (.cons _ _ _ _ (.nil 8 (by decide)) (.cons _ _ _ _ (.rn _ _ (.same _ rfl)) (.cons _ _ _ _ (.rn _ _ (.same _ rfl)) .nil)))))) (.cons _ _ _ _ (.of _ _ (.rn _ _ (.same _ rfl))) .nil))
theorem rd_oX {S : Store} {i j : Nat} {ea eb : List Pg} {ec : List Rc} {es : Int} {ed b : Bool} (h1 : getO S i = some ⟨3, ea.map pA⟩) (h2 : getO S j = some ⟨3, eb.map pA⟩) (ha : ea.length = 5) (hb : eb.length = 5) : RdT [] S 0 (.tup [.agg [.own i 3 0 5, .own j 3 0 5, recs ec, I es, Bo ed], Bo b]) (.tup [eA ⟨ea, eb, ec, es, ed⟩, Bo b]) :=
  .tup _ _ (.cons _ _ _ _ (.agg _ _ (.cons _ _ _ _ (rd_pgs (Nat.zero_le _) (by simp) h1 ha) (.cons _ _ _ _ (rd_pgs (Nat.zero_le _) (by simp) h2 hb) (.cons _ _ _ _ (.rn _ _ (.same _ rfl)) (.cons _ _ _ _ (.rn _ _ (.same _ rfl)) (.cons _ _ _ _ (.rn _ _ (.same _ rfl)) .nil)))))) (.cons _ _ _ _ (.of _ _ (.rn _ _ (.same _ rfl))) .nil))
end
end Go.Proofs.YtjdebcankncfaaaGreat.Am
end
section
set_option linter.unusedVariables false
set_option linter.unusedSimpArgs false
set_option maxRecDepth 100000
set_option maxHeartbeats 8000000
namespace Go.Proofs.YtjdebcankncfaaaGreat.Am
open Go Go.RowKit Go.Proofs
attribute [local congr] opsP_congr codeP_congr AWP_congr afterR_congr preP_congr afterPre_congr gPre_congr gOps_congr condP_congr stepE_congr
attribute [local go_sem] ty_int ty_bool ty_str ty_u8 ty_ints ty_bytes ty_page ty_pages ty_lpage ty_lpages ty_rec ty_recs ty_lrec ty_lrecs ty_eng ty_leng
attribute [local go_sem] true_and and_true beq_true' beq_false' toNat_cast Int.natCast_nonneg Bool.not_not Bool.not_true Bool.not_false decide_true decide_false Bool.or_false Bool.false_or Bool.or_true Bool.true_or Bool.and_false Bool.false_and Nat.zero_add Int.toNat_of_nonneg wrap_succ wrap_m1 wrap_nat succ_m1 cast0 succ_pos' succ_ne' succ_bne' ge_iff_le gt_iff_lt if_true if_false
section
attribute [local go_sem] slt_r slt_I slt_p ty_rd ty_ev ty_evs
end
section
attribute [local go_sem] slt_r slt_I slt_p ty_rd ty_ev ty_evs
end
section
attribute [local go_sem] slt_r slt_I slt_p ty_rd ty_ev ty_evs
/-- Pages that undoing takes alike: both are fit, and their owners are the same. -/
structure Alike (q q' : List Pg) : Prop where
  l1 : q.length = 5
  l2 : q'.length = 5
  ok1 : ∀ k : Nat, k < 5 → (at' q (k : Int)).ok = true
  ok2 : ∀ k : Nat, k < 5 → (at' q' (k : Int)).ok = true
  own : ∀ k : Nat, k < 5 → (at' q (k : Int)).owner = (at' q' (k : Int)).owner
end
section
attribute [local go_sem] slt_r slt_I slt_p ty_rd ty_ev ty_evs
end
section
attribute [local go_sem] slt_r slt_I slt_p ty_rd ty_ev ty_evs yieldR_idx'
attribute [local congr] yieldR_congr nc_congr
structure WrOk (e : Eng) (l : List Int) (i : Nat) (x : Eng) : Prop where
  ok : okE x = true
  down : x.down = false
  mem : x.mem = e.mem
  disk : ∀ p : Nat, p < 5 → at' x.disk (p : Int) = at' e.mem (p : Int) ∨ (at' x.disk (p : Int) = at' e.disk (p : Int) ∧ ∀ j : Nat, j < i → at' l (j : Int) ≠ (p : Int))
theorem ltIntsSame (a : List Int) (ha : a.length < 4611686018427387904) : Fn1 Tryz.prog 17 [ints a, ints a] (Bo true) := by
  have := ltInts_fn a a ha
  rwa [sameInts_refl] at this
end
end Go.Proofs.YtjdebcankncfaaaGreat.Am
end
section
set_option linter.unusedVariables false
set_option linter.unusedSimpArgs false
set_option maxRecDepth 100000
set_option maxHeartbeats 8000000
namespace Go.Proofs.YtjdebcankncfaaaGreat.Am
open Go Go.RowKit Go.Proofs
attribute [local go_sem_proc] Nat.reduceAdd Nat.reduceSub Nat.reduceMul Nat.reduceLT Nat.reduceLeDiff Nat.reduceEqDiff Int.reduceBEq Int.reduceBNe Int.reduceNeg Int.reduceSub Int.reduceLE Int.reduceLT
attribute [local go_sem_proc ↓] reduceIte
attribute [local congr] opsP_congr codeP_congr AWP_congr afterR_congr preP_congr afterPre_congr gPre_congr gOps_congr condP_congr stepE_congr
attribute [local go_sem] ty_int ty_bool ty_str ty_u8 ty_ints ty_bytes ty_page ty_pages ty_lpage ty_lpages ty_rec ty_recs ty_lrec ty_lrecs ty_eng ty_leng
attribute [local go_sem] true_and and_true beq_true' beq_false' toNat_cast Int.natCast_nonneg Bool.not_not Bool.not_true Bool.not_false decide_true decide_false Bool.or_false Bool.false_or Bool.or_true Bool.true_or Bool.and_false Bool.false_and Nat.zero_add Int.toNat_of_nonneg wrap_succ wrap_m1 wrap_nat succ_m1 cast0 succ_pos' succ_ne' succ_bne' ge_iff_le gt_iff_lt if_true if_false
section
attribute [local go_sem] slt_r slt_I slt_p ty_rd ty_ev ty_evs
open Go.Lib in
theorem once_lt (l : List Int) (h : l.Pairwise (· ≤ ·)) : (once l).Pairwise (· < ·) := by
  unfold once compact compactUpTo
  rw [List.pairwise_map]
  refine List.Pairwise.imp_of_mem ?_ (List.Pairwise.filter _ (List.pairwise_lt_range (n := l.toArray.size)))
  intro a b ha hb hab
  have hbm := List.mem_filter.1 hb
  have hbl : b < l.length := by simpa using hbm.1
  have hk : l.toArray[b]! ≠ l.toArray[b - 1]! := by
    have := hbm.2
    unfold keeps at this
    simp only [decide_eq_true_eq] at this
    rcases this with h0 | h0
    · omega
    · exact h0
  have e1 : l.toArray[a]! = l[a] := by simp [show a < l.length by omega]
  have e2 : l.toArray[b]! = l[b] := by simp [hbl]
  have e3 : l.toArray[b - 1]! = l[b - 1] := by simp [show b - 1 < l.length by omega]
  rw [e2, e3] at hk
  rw [e1, e2]
  rw [List.pairwise_iff_getElem] at h
  have h1 : l[b - 1] ≤ l[b] := h (b - 1) b (by omega) hbl (by omega)
  have h2 : l[a] ≤ l[b - 1] := by
    by_cases hc : a = b - 1
    · subst hc; exact Int.le_refl _
    · exact h a (b - 1) (by omega) (by omega) (by omega)
  omega
theorem sorted_le (l : List Int) : (sorted l).Pairwise (· ≤ ·) := by
  unfold sorted
  have := List.pairwise_mergeSort (le := fun x y : Int => decide (x ≤ y)) (fun a b c h1 h2 => by simp only [decide_eq_true_eq] at *; omega) (fun a b => by simp only [Bool.or_eq_true, decide_eq_true_eq]; omega) l
  exact this.imp fun h => by simpa using h
theorem lt_unique : ∀ {l m : List Int}, l.Pairwise (· < ·) → m.Pairwise (· < ·) → (∀ x, x ∈ l ↔ x ∈ m) → l = m
  | [], [], _, _, _ => rfl
  | [], y :: m, _, _, h => by have := (h y).2 (by simp); cases this
  | x :: l, [], _, _, h => by have := (h x).1 (by simp); cases this
  | x :: l, y :: m, h1, h2, h => by
    rw [List.pairwise_cons] at h1 h2
    have hxy : x = y := by
      rcases List.mem_cons.1 ((h x).1 (by simp)) with e | e
      · exact e
      · rcases List.mem_cons.1 ((h y).2 (by simp)) with e2 | e2
        · exact e2.symm
        · have a := h2.1 x e
          have b := h1.1 y e2
          omega
    subst hxy
    rw [lt_unique h1.2 h2.2 fun z => ?_]
    constructor
    · intro hz
      rcases List.mem_cons.1 ((h z).1 (List.mem_cons_of_mem _ hz)) with e | e
      · have := h1.1 z hz
        omega
      · exact e
    · intro hz
      rcases List.mem_cons.1 ((h z).2 (List.mem_cons_of_mem _ hz)) with e | e
      · have := h2.1 z hz
        omega
      · exact e
def ldTo (l : List Rc) (tx : Int) : Nat → List Int
  | 0 => []
  | p + 1 => if loadIn l tx (p : Int) = true then ldTo l tx p ++ [(p : Int)] else ldTo l tx p
theorem ldTo_mem (l : List Rc) (tx x : Int) : ∀ n, x ∈ ldTo l tx n ↔ ∃ p : Nat, p < n ∧ x = (p : Int) ∧ loadIn l tx (p : Int) = true
  | 0 => by simp [ldTo]
  | n + 1 => by
    have ih := ldTo_mem l tx x n
    unfold ldTo
    split
    · rename_i h
      rw [List.mem_append, ih, List.mem_singleton]
      constructor
      · rintro (⟨p, h1, h2, h3⟩ | h2)
        · exact ⟨p, by omega, h2, h3⟩
        · exact ⟨n, by omega, h2, h⟩
      · rintro ⟨p, h1, h2, h3⟩
        rcases Nat.lt_succ_iff_lt_or_eq.1 h1 with h1 | rfl
        · exact .inl ⟨p, h1, h2, h3⟩
        · exact .inr h2
    · rename_i h
      rw [ih]
      constructor
      · rintro ⟨p, h1, h2, h3⟩
        exact ⟨p, by omega, h2, h3⟩
      · rintro ⟨p, h1, h2, h3⟩
        refine ⟨p, ?_, h2, h3⟩
        rcases Nat.lt_succ_iff_lt_or_eq.1 h1 with h1 | rfl
        · exact h1
        · exact absurd h3 h
theorem ldTo_lt (l : List Rc) (tx : Int) : ∀ n, (ldTo l tx n).Pairwise (· < ·)
  | 0 => .nil
  | n + 1 => by
    have ih := ldTo_lt l tx n
    unfold ldTo
    split
    · rw [List.pairwise_append]
      refine ⟨ih, List.pairwise_singleton _ _, fun a ha b hb => ?_⟩
      rw [List.mem_singleton] at hb
      obtain ⟨p, h1, h2, _⟩ := (ldTo_mem l tx a n).1 ha
      omega
    · exact ih
theorem ldTo_len (l : List Rc) (tx : Int) : ∀ n, (ldTo l tx n).length ≤ n
  | 0 => Nat.le_refl _
  | n + 1 => by
    have ih := ldTo_len l tx n
    unfold ldTo
    split
    · simp; omega
    · omega
/-- The pages of the bulk loads of a chain, one after another. -/
theorem pgs_loads {l : List Rc} (hw : Wf l) (tx : Int) : pgsOf l tx (fun r => decide (r.kind = 3)) = ldTo l tx 5 := by
  refine lt_unique (once_lt _ (sorted_le _)) (ldTo_lt l tx 5) fun x => ?_
  rw [ldTo_mem]
  show x ∈ pgsOf l tx _ ↔ _
  rw [mem_pgsOf]
  constructor
  · rintro ⟨n, h1, h2, h3⟩
    obtain ⟨b, rfl, hb⟩ := chain_mem hw _ (lastN_le _ _) h1
    have eb : (((b + 1 : Nat) : Int) - 1) = (b : Int) := by omega
    obtain ⟨m, hm, hp⟩ := Rc.ok_page (hw.rok b hb)
    rw [eb] at h2 h3
    refine ⟨m, by omega, by rw [← h3, hp], ?_⟩
    unfold loadIn
    rw [List.any_eq_true]
    exact ⟨b + 1, h1, by rw [eb]; simp only [Bool.and_eq_true]; exact ⟨h2, by simpa using hp⟩⟩
  · rintro ⟨p, h1, rfl, h2⟩
    unfold loadIn at h2
    rw [List.any_eq_true] at h2
    obtain ⟨n, h3, h4⟩ := h2
    simp only [Bool.and_eq_true] at h4
    exact ⟨n, h3, h4.1, by simpa using h4.2⟩
def loadsE (e : Eng) (tx : Int) : List Int := if okE e = true then ldTo e.log tx 5 else []
theorem EndLoadsI_fn (e : Eng) (tx : Int) (h : e.small) : Fn1 Tryz.prog 16 [eA e, I tx] (ints (loadsE e tx)) := by
  have c1 := okI e h
  refine fn1_of Tryz.func16 rfl rfl ?_
  unfold loadsE
  rcases hok : okE e with _ | _
  · rw [hok] at c1
    simp -implicitDefEqProofs only [go_sem, Tryz.f16]
    (repeat' (first | ((with_reducible first | refine gon ?_ ?_ | refine gos ?_ ?_ | refine cdn ?_ ?_ | refine cds ?_ ?_ | refine gpn ?_ ?_ | refine gps ?_ ?_) <;> intro h <;> (try simp only [dt, df, gi, gt] at h) <;> try simp -implicitDefEqProofs only [go_sem, *]) | ((with_reducible refine And.intro ?_ ?_); (· first | omega | (simp only [List.length_take]; omega)); try simp -implicitDefEqProofs only [go_sem, *]) | ((with_reducible refine enter_pu (c1) ?_ ?_ ?_); (· rfl); (· rfl); try simp -implicitDefEqProofs only [go_sem, *])))
    exact fin_drawn (.of _ _ (.of _ _ (.nil 1 (by decide)))) ⟨⟨rfl, rfl⟩, rfl⟩
  · rw [hok] at c1
    rw [if_pos rfl]
    have hw := (inv_of_ok hok).wf
    have c2 := (pagesC lastC).fn e.log tx 49 (fun r => decide (r.kind = 3)) hw loads_fn
    rw [show (pagesC lastC).pg e.log tx (fun r => decide (r.kind = 3)) = ldTo e.log tx 5 from pgs_loads hw tx] at c2
    simp -implicitDefEqProofs only [go_sem, Tryz.f16]
    (repeat' (first | ((with_reducible first | refine gon ?_ ?_ | refine gos ?_ ?_ | refine cdn ?_ ?_ | refine cds ?_ ?_ | refine gpn ?_ ?_ | refine gps ?_ ?_) <;> intro h <;> (try simp only [dt, df, gi, gt] at h) <;> try simp -implicitDefEqProofs only [go_sem, *]) | ((with_reducible refine And.intro ?_ ?_); (· first | omega | (simp only [List.length_take]; omega)); try simp -implicitDefEqProofs only [go_sem, *]) | first | ((with_reducible refine enter_pu (c1) ?_ ?_ ?_); (· rfl); (· rfl); try simp -implicitDefEqProofs only [go_sem, *]) | ((with_reducible refine enter_pu (c2) ?_ ?_ ?_); (· rfl); (· rfl); try simp -implicitDefEqProofs only [go_sem, *])))
    exact fin_pu rfl rfl
theorem EndLoadsS_fn (e : Eng) (tx : Int) (h : e.small) : Fn1 Tryz.prog 18 [eA e, I tx] (ints (loadsE e tx)) := by
  have c1 := okS e h
  refine fn1_of Tryz.func18 rfl rfl ?_
  unfold loadsE
  rcases hok : okE e with _ | _
  · rw [hok] at c1
    simp -implicitDefEqProofs only [go_sem, Tryz.f18]
    (repeat' (first | ((with_reducible first | refine gon ?_ ?_ | refine gos ?_ ?_ | refine cdn ?_ ?_ | refine cds ?_ ?_ | refine gpn ?_ ?_ | refine gps ?_ ?_) <;> intro h <;> (try simp only [dt, df, gi, gt] at h) <;> try simp -implicitDefEqProofs only [go_sem, *]) | ((with_reducible refine And.intro ?_ ?_); (· first | omega | (simp only [List.length_take]; omega)); try simp -implicitDefEqProofs only [go_sem, *]) | ((with_reducible refine enter_pu (c1) ?_ ?_ ?_); (· rfl); (· rfl); try simp -implicitDefEqProofs only [go_sem, *])))
    exact fin_1 (argT0 (arg0_I (l := []) rfl rfl))
  · rw [hok] at c1
    rw [if_pos rfl]
    have hi := inv_of_ok hok
    have hw := hi.wf
    have hlen := hi.len
    have c2 := l3Last_fn e.log tx (by omega)
    clear hok hi
    simp -implicitDefEqProofs only [go_sem, Tryz.f18]
    (repeat' (first | ((with_reducible first | refine gon ?_ ?_ | refine gos ?_ ?_ | refine cdn ?_ ?_ | refine cds ?_ ?_ | refine gpn ?_ ?_ | refine gps ?_ ?_) <;> intro h <;> (try simp only [dt, df, gi, gt] at h) <;> try simp -implicitDefEqProofs only [go_sem, *]) | ((with_reducible refine And.intro ?_ ?_); (· first | omega | (simp only [List.length_take]; omega)); try simp -implicitDefEqProofs only [go_sem, *]) | ((with_reducible refine enter_pu (c1) ?_ ?_ ?_); (· rfl); (· rfl); try simp -implicitDefEqProofs only [go_sem, *])))
    clear c1
    refine cp_loop (fun p : Nat => ⟨(.any :: I tx :: .ref 0 5 0 0 :: .any :: nilS :: .own 1 1 0 (ldTo e.log tx p).length :: I (p : Int) :: .any :: .any :: .any :: .any :: .any :: .any :: .any :: .any :: .any :: .any :: .any :: .any :: .any :: .any :: .any :: .any :: .any :: .any :: .any :: .any :: .any :: .any :: .any :: .any :: .any :: .any :: .any :: .any :: .any :: .any :: .any :: .any :: .any :: .any :: .any :: .any :: .any :: .any :: .any :: .any :: .any :: .any :: .any :: .any :: .any :: .any :: .any :: []), [some ⟨5, [eA e]⟩, some ⟨1, (ldTo e.log tx p).map I⟩], [1]⟩) (fun p => p ≤ 5) (fun p => 5 - p) 0 ?_ ?_ ?_
    · simp
    · refine WkN.trans (WkN.trans (wk_tm ?_) (wk_trunc (S := [some ⟨5, _⟩, some ⟨1, _⟩]) (Nat.le_refl _) rfl (by first | rfl | (simp only [sltB, List.all_cons, List.all_nil, slt_p, slt_I, slt_r, Bool.and_true]; done) | (simp only [sltB, List.all_cons, List.all_nil, slt_p, slt_I, slt_r, Bool.and_true]; rfl)))) (wk_mv (by simp)); repeat (first | exact WL.nil | (with_reducible refine WL.any _ _ _ ?_) | (with_reducible refine WL.same _ _ _ ?_) | (refine WL.eq _ _ _ _ rfl ?_))
    · rintro p hp
      have hpb : p < 4611686018427387904 := by omega
      have hll := ldTo_len e.log tx p
      by_cases hpl : p < 5
      · have hl1 : (p : Int) < 5 := by omega
        simp -implicitDefEqProofs only [go_sem, hl1]
        (repeat' (first | ((with_reducible first | refine gon ?_ ?_ | refine gos ?_ ?_ | refine cdn ?_ ?_ | refine cds ?_ ?_ | refine gpn ?_ ?_ | refine gps ?_ ?_) <;> intro h <;> (try simp only [dt, df, gi, gt] at h) <;> try simp -implicitDefEqProofs only [go_sem, *]) | ((with_reducible refine And.intro ?_ ?_); (· first | omega | (simp only [List.length_take]; omega)); try simp -implicitDefEqProofs only [go_sem, *]) | ((with_reducible refine enter_pu (c2) ?_ ?_ ?_); (· rfl); (· rfl); try simp -implicitDefEqProofs only [go_sem, *])))
        refine cp_loop (fun n : Nat => ⟨(.any :: I tx :: .ref 0 5 0 0 :: .any :: nilS :: .own 1 1 0 (ldTo e.log tx p).length :: I (p : Int) :: I (n : Int) :: .any :: .any :: .any :: .any :: .any :: .any :: .any :: .any :: .any :: .any :: .any :: .any :: .any :: .any :: .any :: .any :: .any :: .any :: .any :: .any :: .any :: .any :: .any :: .any :: .any :: .any :: .any :: .any :: .any :: .any :: .any :: .any :: .any :: .any :: .any :: .any :: .any :: .any :: .any :: .any :: .any :: .any :: .any :: .any :: .any :: .any :: []), [some ⟨5, [eA e]⟩, some ⟨1, (ldTo e.log tx p).map I⟩], [1]⟩) (fun n => n ≤ e.log.length ∧ ((chain e.log n).any fun n => decide ((at' e.log ((n : Int) - 1)).kind = 3) && decide ((at' e.log ((n : Int) - 1)).page = (p : Int))) = loadIn e.log tx (p : Int)) (fun n => n) (lastN e.log tx) ?_ ?_ ?_
        · exact ⟨lastN_le _ _, rfl⟩
        · refine wk_tm ?_; repeat (first | exact WL.nil | (with_reducible refine WL.any _ _ _ ?_) | (with_reducible refine WL.same _ _ _ ?_) | (refine WL.eq _ _ _ _ rfl ?_))
        · rintro n ⟨hn, hg⟩
          rcases n with _ | b
          · rw [chain_zero] at hg
            have e1 : ldTo e.log tx (p + 1) = ldTo e.log tx p := if_neg (by rw [← hg]; simp)
            clear hg
            simp -implicitDefEqProofs only [go_sem, true_and, hpb]
            (repeat' (first | ((with_reducible first | refine gon ?_ ?_ | refine gos ?_ ?_ | refine cdn ?_ ?_ | refine cds ?_ ?_ | refine gpn ?_ ?_ | refine gps ?_ ?_) <;> intro h <;> (try simp only [dt, df, gi, gt] at h) <;> try simp -implicitDefEqProofs only [go_sem, *]) | ((with_reducible refine And.intro ?_ ?_); (· first | omega | (simp only [List.length_take]; omega)); try simp -implicitDefEqProofs only [go_sem, *]) | fail))
            refine ⟨p + 1, by omega, by omega, ?_⟩
            simp only [e1]
            refine wk_tm ?_; repeat (first | exact WL.nil | (with_reducible refine WL.any _ _ _ ?_) | (with_reducible refine WL.same _ _ _ ?_) | (refine WL.eq _ _ _ _ rfl ?_))
          · have hbl : b < e.log.length := by omega
            have hbb : b < 4611686018427387904 := by omega
            obtain ⟨m, hm, hpv⟩ := hw.prev b hbl
            rw [chain_succ hpv hm, List.any_cons, show (((b + 1 : Nat) : Int) - 1) = (b : Int) by omega] at hg
            rcases hk : (at' e.log (b : Int)).kind == 3 with _ | _
            · have hk' : ¬ (at' e.log (b : Int)).kind = 3 := fun h => by rw [h] at hk; cases hk
              rw [decide_eq_false hk', Bool.false_and, Bool.false_or] at hg
              clear hk'
              simp -implicitDefEqProofs only [go_sem, true_and, hbb, hpb]
              (repeat' (first | ((with_reducible first | refine gon ?_ ?_ | refine gos ?_ ?_ | refine cdn ?_ ?_ | refine cds ?_ ?_ | refine gpn ?_ ?_ | refine gps ?_ ?_) <;> intro h <;> (try simp only [dt, df, gi, gt] at h) <;> try simp -implicitDefEqProofs only [go_sem, *]) | ((with_reducible refine And.intro ?_ ?_); (· first | omega | (simp only [List.length_take]; omega)); try simp -implicitDefEqProofs only [go_sem, *]) | fail))
              refine ⟨m, ⟨by omega, hg⟩, by omega, ?_⟩
              refine wk_tm ?_; repeat (first | exact WL.nil | (with_reducible refine WL.any _ _ _ ?_) | (with_reducible refine WL.same _ _ _ ?_) | (refine WL.eq _ _ _ _ rfl ?_))
            · have hk' : (at' e.log (b : Int)).kind = 3 := by simpa using hk
              rcases hq : (at' e.log (b : Int)).page == (p : Int) with _ | _
              · have hq' : ¬ (at' e.log (b : Int)).page = (p : Int) := fun h => by rw [h] at hq; simp at hq
                rw [decide_eq_false hq', Bool.and_false, Bool.false_or] at hg
                clear hk' hq'
                simp -implicitDefEqProofs only [go_sem, true_and, hbb, hpb]
                (repeat' (first | ((with_reducible first | refine gon ?_ ?_ | refine gos ?_ ?_ | refine cdn ?_ ?_ | refine cds ?_ ?_ | refine gpn ?_ ?_ | refine gps ?_ ?_) <;> intro h <;> (try simp only [dt, df, gi, gt] at h) <;> try simp -implicitDefEqProofs only [go_sem, *]) | ((with_reducible refine And.intro ?_ ?_); (· first | omega | (simp only [List.length_take]; omega)); try simp -implicitDefEqProofs only [go_sem, *]) | fail))
                refine ⟨m, ⟨by omega, hg⟩, by omega, ?_⟩
                refine wk_tm ?_; repeat (first | exact WL.nil | (with_reducible refine WL.any _ _ _ ?_) | (with_reducible refine WL.same _ _ _ ?_) | (refine WL.eq _ _ _ _ rfl ?_))
              · have hq' : (at' e.log (b : Int)).page = (p : Int) := by simpa using hq
                rw [decide_eq_true hk', decide_eq_true hq', Bool.true_and, Bool.true_or] at hg
                have e1 : ldTo e.log tx (p + 1) = ldTo e.log tx p ++ [(p : Int)] := if_pos hg.symm
                clear hk' hq' hg
                simp -implicitDefEqProofs only [go_sem, true_and, hbb, hpb]
                (repeat' (first | ((with_reducible first | refine gon ?_ ?_ | refine gos ?_ ?_ | refine cdn ?_ ?_ | refine cds ?_ ?_ | refine gpn ?_ ?_ | refine gps ?_ ?_) <;> intro h <;> (try simp only [dt, df, gi, gt] at h) <;> try simp -implicitDefEqProofs only [go_sem, *]) | ((with_reducible refine And.intro ?_ ?_); (· first | omega | (simp only [List.length_take]; omega)); try simp -implicitDefEqProofs only [go_sem, *]) | fail))
                refine ⟨p + 1, by omega, by omega, ?_⟩
                simp only [e1, List.length_append, List.length_cons, List.length_nil]
                refine WkN.trans (WkN.trans (wk_tm ?_) (wk_trunc (S := [some ⟨5, _⟩, some ⟨1, _⟩]) (Nat.le_refl _) rfl (by first | rfl | (simp only [sltB, List.all_cons, List.all_nil, slt_p, slt_I, slt_r, Bool.and_true]; done) | (simp only [sltB, List.all_cons, List.all_nil, slt_p, slt_I, slt_r, Bool.and_true]; rfl)))) (wk_mv (by simp)); repeat (first | exact WL.nil | (with_reducible refine WL.any _ _ _ ?_) | (with_reducible refine WL.same _ _ _ ?_) | (refine WL.eq _ _ _ _ rfl ?_))
      · have hl1 : ¬ (p : Int) < 5 := by omega
        have e5 : p = 5 := by omega
        subst e5
        simp -implicitDefEqProofs only [go_sem, hl1]
        exact fin_1 (argT0 (arg0_I rfl rfl))
end
section
attribute [local go_sem] slt_r slt_I slt_p ty_rd ty_ev ty_evs
def loadD (e : Eng) (tx page : Int) (vals : List Int) : Eng × Bool := if okE e = true then e.load tx page vals else (zeroE, false)
def ownD (e : Eng) (tx page table : Int) : Eng × Bool := if okE e = true then e.own tx page table else (zeroE, false)
theorem ChangeLoadS_fn (e : Eng) (tx page : Int) (vals : List Int) (h : e.small) (hv : vals.length < 4611686018427387904) : Fn1 Tryz.prog 6 [eA e, I tx, I page, ints vals] (.tup [eA (loadD e tx page vals).1, Bo (loadD e tx page vals).2]) := by
  have c1 := okS e h
  refine fn1_of Tryz.func6 rfl rfl ?_
  unfold loadD
  rcases hok : okE e with _ | _
  · rw [if_neg (by simp)]
    rw [hok] at c1
    simp -implicitDefEqProofs only [go_sem, Tryz.f6]
    (repeat' (first | ((with_reducible first | refine gon ?_ ?_ | refine gos ?_ ?_ | refine cdn ?_ ?_ | refine cds ?_ ?_ | refine gpn ?_ ?_ | refine gps ?_ ?_) <;> intro h <;> (try simp only [dt, df, gi, gt] at h) <;> try simp -implicitDefEqProofs only [go_sem, *]) | ((with_reducible refine And.intro ?_ ?_); (· first | omega | (simp only [List.length_take]; omega)); try simp -implicitDefEqProofs only [go_sem, *]) | ((with_reducible refine enter_pu (c1) ?_ ?_ ?_); (· rfl); (· rfl); try simp -implicitDefEqProofs only [go_sem, *])))
    exact fin_drawn rd_ez ⟨⟨rfl, rfl⟩, rfl⟩
  rw [if_pos rfl]
  rw [hok] at c1
  have hi := inv_of_ok hok
  have hi2 := load_inv hi tx page vals
  have c2 := l11Copy_c e hi.disk.sz hi.mem.sz (by have := hi.len; omega)
  have c3 := l12Load_c e tx page vals hi hv
  have ha := hi2.disk.len
  have hb := hi2.mem.len
  generalize e.load tx page vals = q at c3 ha hb ⊢
  obtain ⟨⟨qa, qb, qc, qs, qd⟩, b⟩ := q
  simp only at c3 ha hb ⊢
  clear hok hi hi2
  simp -implicitDefEqProofs only [go_sem, Tryz.f6]
  (repeat' (first | ((with_reducible first | refine gon ?_ ?_ | refine gos ?_ ?_ | refine cdn ?_ ?_ | refine cds ?_ ?_ | refine gpn ?_ ?_ | refine gps ?_ ?_) <;> intro h <;> (try simp only [dt, df, gi, gt] at h) <;> try simp -implicitDefEqProofs only [go_sem, *]) | ((with_reducible refine And.intro ?_ ?_); (· first | omega | (simp only [List.length_take]; omega)); try simp -implicitDefEqProofs only [go_sem, *]) | first | ((with_reducible refine enter_pu (c1) ?_ ?_ ?_); (· rfl); (· rfl); try simp -implicitDefEqProofs only [go_sem, *]) | ((with_reducible refine enter_fn (c2) ?_ ?_); (· rfl); try simp -implicitDefEqProofs only [go_sem, *]) | ((with_reducible refine enter_at1 [2, 3] (M2 := []) (c3) (by decide) ?_ ?_ rfl ?_); (· repeat (first | exact Keeps.nil | (refine Keeps.cons _ _ _ _ _ rfl rfl ?_ ?_; (· first | exact a2_p _ _ | exact a2_1 rfl | exact a2_I _ _)))); (· repeat (first | exact All2.nil | (refine All2.cons _ _ _ _ ?_ ?_; (· first | exact rnT_eX rfl rfl | exact rnT_prim | exact rnT_sl | exact rnT_ref rfl | exact rnT_agg rfl | exact rnT_own rfl | exact rnT_eX5 rfl rfl)))); try simp -implicitDefEqProofs only [go_sem, *])))
  all_goals exact fin_drawn (rd_oX rfl rfl ha hb) ⟨⟨rfl, rfl⟩, rfl⟩
theorem ChangeOwnS_fn (e : Eng) (tx page table : Int) (h : e.small) : Fn1 Tryz.prog 84 [eA e, I tx, I page, I table] (.tup [eA (ownD e tx page table).1, Bo (ownD e tx page table).2]) := by
  have c1 := okS e h
  refine fn1_of Tryz.func84 rfl rfl ?_
  unfold ownD
  rcases hok : okE e with _ | _
  · rw [if_neg (by simp)]
    rw [hok] at c1
    simp -implicitDefEqProofs only [go_sem, Tryz.f84]
    (repeat' (first | ((with_reducible first | refine gon ?_ ?_ | refine gos ?_ ?_ | refine cdn ?_ ?_ | refine cds ?_ ?_ | refine gpn ?_ ?_ | refine gps ?_ ?_) <;> intro h <;> (try simp only [dt, df, gi, gt] at h) <;> try simp -implicitDefEqProofs only [go_sem, *]) | ((with_reducible refine And.intro ?_ ?_); (· first | omega | (simp only [List.length_take]; omega)); try simp -implicitDefEqProofs only [go_sem, *]) | ((with_reducible refine enter_pu (c1) ?_ ?_ ?_); (· rfl); (· rfl); try simp -implicitDefEqProofs only [go_sem, *])))
    exact fin_drawn rd_ez ⟨⟨rfl, rfl⟩, rfl⟩
  rw [if_pos rfl]
  rw [hok] at c1
  have hi := inv_of_ok hok
  have hi2 := own_inv hi tx page table
  have c2 := l11Copy_c e hi.disk.sz hi.mem.sz (by have := hi.len; omega)
  have c3 := l12Own_c e tx page table hi
  have ha := hi2.disk.len
  have hb := hi2.mem.len
  generalize e.own tx page table = q at c3 ha hb ⊢
  obtain ⟨⟨qa, qb, qc, qs, qd⟩, b⟩ := q
  simp only at c3 ha hb ⊢
  clear hok hi hi2
  simp -implicitDefEqProofs only [go_sem, Tryz.f84]
  (repeat' (first | ((with_reducible first | refine gon ?_ ?_ | refine gos ?_ ?_ | refine cdn ?_ ?_ | refine cds ?_ ?_ | refine gpn ?_ ?_ | refine gps ?_ ?_) <;> intro h <;> (try simp only [dt, df, gi, gt] at h) <;> try simp -implicitDefEqProofs only [go_sem, *]) | ((with_reducible refine And.intro ?_ ?_); (· first | omega | (simp only [List.length_take]; omega)); try simp -implicitDefEqProofs only [go_sem, *]) | first | ((with_reducible refine enter_pu (c1) ?_ ?_ ?_); (· rfl); (· rfl); try simp -implicitDefEqProofs only [go_sem, *]) | ((with_reducible refine enter_fn (c2) ?_ ?_); (· rfl); try simp -implicitDefEqProofs only [go_sem, *]) | ((with_reducible refine enter_at1 [2, 3] (M2 := []) (c3) (by decide) ?_ ?_ rfl ?_); (· repeat (first | exact Keeps.nil | (refine Keeps.cons _ _ _ _ _ rfl rfl ?_ ?_; (· first | exact a2_p _ _ | exact a2_1 rfl | exact a2_I _ _)))); (· repeat (first | exact All2.nil | (refine All2.cons _ _ _ _ ?_ ?_; (· first | exact rnT_eX rfl rfl | exact rnT_prim | exact rnT_sl | exact rnT_ref rfl | exact rnT_agg rfl | exact rnT_own rfl | exact rnT_eX5 rfl rfl)))); try simp -implicitDefEqProofs only [go_sem, *])))
  all_goals exact fin_drawn (rd_oX rfl rfl ha hb) ⟨⟨rfl, rfl⟩, rfl⟩
end
end Go.Proofs.YtjdebcankncfaaaGreat.Am
end
section
set_option linter.unusedVariables false
set_option linter.unusedSimpArgs false
set_option maxRecDepth 100000
set_option maxHeartbeats 8000000
namespace Go.Proofs.YtjdebcankncfaaaGreat.Am
open Go Go.RowKit Go.Proofs
attribute [local congr] opsP_congr codeP_congr AWP_congr afterR_congr preP_congr afterPre_congr gPre_congr gOps_congr condP_congr stepE_congr
attribute [local go_sem] ty_int ty_bool ty_str ty_u8 ty_ints ty_bytes ty_page ty_pages ty_lpage ty_lpages ty_rec ty_recs ty_lrec ty_lrecs ty_eng ty_leng
attribute [local go_sem] true_and and_true beq_true' beq_false' toNat_cast Int.natCast_nonneg Bool.not_not Bool.not_true Bool.not_false decide_true decide_false Bool.or_false Bool.false_or Bool.or_true Bool.true_or Bool.and_false Bool.false_and Nat.zero_add Int.toNat_of_nonneg wrap_succ wrap_m1 wrap_nat succ_m1 cast0 succ_pos' succ_ne' succ_bne' ge_iff_le gt_iff_lt if_true if_false
section
/-- As RnT; a value may be forgotten. -/
inductive RnA (K : List Nat) : AV → AV → Prop
  | rn (x y : AV) (h : RnT K x y) : RnA K x y
  | any (x : AV) : RnA K x .any
end
section
/-- A page whose values are the object i. -/
structure Dq where
  i : Nat
  p : Pg
instance : Inhabited Dq := ⟨⟨0, default⟩⟩
abbrev dA (q : Dq) : AV := .agg [I q.p.lsn, I q.p.owner, .own q.i 1 0 q.p.vals.length]
def dps : Nat → List Pg → List Dq
  | _, [] => []
  | b, p :: ps => ⟨b, p⟩ :: dps (b + 1) ps
abbrev vO (p : Pg) : Option AObj := some ⟨1, p.vals.map I⟩
abbrev oD (b : Nat) (ps : List Pg) : Option AObj := some ⟨3, (dps b ps).map dA⟩
abbrev oR8 (l : List Rc) : Option AObj := some ⟨8, l.map rA⟩
/-- The store has the objects T from the place n on. -/
def Has (S : Store) (n : Nat) (T : Store) : Prop := ∀ i, i < T.length → S[n + i]? = T[i]?
theorem Has.getO {S T : Store} {n i : Nat} {o : AObj} (h : Has S n T) (hi : T[i]? = some (some o)) : getO S (n + i) = some o := by
  unfold Am.getO
  rw [h i (List.getElem?_eq_some_iff.1 hi).1, hi]
end
section
def cntPs : List Pg → Nat
  | [] => 0
  | p :: ps => 2 + p.vals.length + cntPs ps
def markR (k : Int) : Rc := ⟨k, k + 1, k + 2, k + 3, k + 4, k + 5, k + 6, k + 7⟩
def markRs (k : Int) (n : Nat) : List Rc := (List.range n).map fun i : Nat => markR (k + 8 * (i : Int))
theorem markRs_len (k : Int) (n : Nat) : (markRs k n).length = n := by simp [markRs]
end
end Go.Proofs.YtjdebcankncfaaaGreat.Am
end
section
set_option linter.unusedVariables false
set_option linter.unusedSimpArgs false
set_option maxRecDepth 100000
set_option maxHeartbeats 8000000
namespace Go.Proofs.YtjdebcankncfaaaGreat.Am
open Go Go.RowKit Go.Proofs
attribute [local go_sem_proc] Nat.reduceAdd Nat.reduceSub Nat.reduceMul Nat.reduceLT Nat.reduceLeDiff Nat.reduceEqDiff Int.reduceBEq Int.reduceBNe Int.reduceNeg Int.reduceSub Int.reduceLE Int.reduceLT
attribute [local go_sem_proc ↓] reduceIte
attribute [local congr] opsP_congr codeP_congr AWP_congr afterR_congr preP_congr afterPre_congr gPre_congr gOps_congr condP_congr stepE_congr
attribute [local go_sem] ty_int ty_bool ty_str ty_u8 ty_ints ty_bytes ty_page ty_pages ty_lpage ty_lpages ty_rec ty_recs ty_lrec ty_lrecs ty_eng ty_leng
attribute [local go_sem] true_and and_true beq_true' beq_false' toNat_cast Int.natCast_nonneg Bool.not_not Bool.not_true Bool.not_false decide_true decide_false Bool.or_false Bool.false_or Bool.or_true Bool.true_or Bool.and_false Bool.false_and Nat.zero_add Int.toNat_of_nonneg wrap_succ wrap_m1 wrap_nat succ_m1 cast0 succ_pos' succ_ne' succ_bne' ge_iff_le gt_iff_lt if_true if_false
section
/-- A page with an object, or the zero page. -/
def dZ : Option Dq → AV
  | some q => dA q
  | none => .agg [I 0, I 0, .prim (.slice none 0 0)]
@[local go_sem] theorem dz_put {x : Option Dq} {a b c : AV} : AV.putAt (dZ x) 0 [a, b, c] = .agg [a, b, c] := by cases x <;> rfl
@[local go_sem] theorem set_dz {l : List (Option Dq)} {k j : Nat} {a b : Int} {v : List Int} : (l.map dZ).set k (.agg [I a, I b, .own j 1 0 v.length]) = (l.set k (some (⟨j, ⟨a, b, v⟩⟩ : Dq))).map dZ := by rw [List.map_set]; rfl
@[local go_sem] theorem set_d {l : List Dq} {k j : Nat} {a b : Int} {v : List Int} : (l.map dA).set k (.agg [I a, I b, .own j 1 0 v.length]) = (l.set k (⟨j, ⟨a, b, v⟩⟩ : Dq)).map dA := by rw [List.map_set]
@[local go_sem] theorem rnO_I {ρ : Nat → Nat} {l : List Int} : rnO ρ (some ⟨1, l.map I⟩) = some ⟨1, l.map I⟩ := by
  unfold rnO
  simp only [Option.map_some, List.map_map]
  congr 2
@[local go_sem] theorem len_mR {k : Int} {n : Nat} : (markRs k n).length = n := markRs_len k n
structure Eng.low (e : Eng) : Prop where
  mid : e.mid
  cd : cntPs e.disk ≤ 10000000000000
  cm : cntPs e.mem ≤ 10000000000000
end
section

end
section
attribute [local go_sem] slt_r slt_I slt_p
@[local go_sem] theorem scs_app {mv : List Nat} {A B : Store} : (A ++ B).map (Option.map fun o => (⟨o.z, o.es.map (AV.sc1 mv)⟩ : AObj)) = A.map (Option.map fun o => (⟨o.z, o.es.map (AV.sc1 mv)⟩ : AObj)) ++ B.map (Option.map fun o => (⟨o.z, o.es.map (AV.sc1 mv)⟩ : AObj)) := List.map_append
@[local go_sem] theorem app_d {l : List Dq} {j : Nat} {a b : Int} {v : List Int} : l.map dA ++ [.agg [I a, I b, .own j 1 0 v.length]] = (l ++ [(⟨j, ⟨a, b, v⟩⟩ : Dq)]).map dA := by simp
theorem pur_d (m : Nat) : ∀ (b : Nat) (ps : List Pg), m < b → ((dps b ps).map dA).all (AV.pur m) = true
  | _, [], _ => rfl
  | b, p :: ps, h => by
    rw [dps, List.map_cons, List.all_cons, pur_d m (b + 1) ps (by omega)]
    simp [AV.pur, AV.nm0, AV.pur0]
    omega
@[local go_sem] theorem pur_d1 {m : Nat} {ps : List Pg} : ((dps (m + 1) ps).map dA).all (AV.pur m) = true := pur_d m _ _ (by omega)
@[local go_sem] theorem pur_dx {m j n : Nat} {a b : Int} : AV.pur m (.agg [I a, I b, .own (m + j + 1) 1 0 n]) = true := by simp [AV.pur, AV.nm0, AV.pur0]; omega
@[local go_sem] theorem pur_d0 {j n : Nat} {a b : Int} : AV.pur 0 (.agg [I a, I b, .own (j + 1) 1 0 n]) = true := by simp [AV.pur, AV.nm0, AV.pur0]
@[local go_sem] theorem s_ne0 {n : Nat} : (n + 1 = 0) = False := by simp
@[local go_sem] theorem scs_v {mv : List Nat} {ps : List Pg} : (ps.map vO).map (Option.map fun o => (⟨o.z, o.es.map (AV.sc1 mv)⟩ : AObj)) = ps.map vO := by
  rw [List.map_map]
  refine List.map_congr_left fun p _ => ?_
  simp only [Function.comp, Option.map_some, List.map_map]
  congr 2
@[go_sem] theorem getO_app {X T : Store} {o : AObj} : getO (X ++ some o :: T) X.length = some o := by
  unfold getO
  simp
@[go_sem] theorem set_app {X T : Store} {o x : Option AObj} : (X ++ o :: T).set X.length x = X ++ x :: T := by
  rw [List.set_append_right _ _ (Nat.le_refl _), Nat.sub_self]
  rfl
end
section
attribute [local go_sem] slt_r slt_I slt_p
end
end Go.Proofs.YtjdebcankncfaaaGreat.Am
end
section
set_option linter.unusedVariables false
set_option linter.unusedSimpArgs false
set_option maxRecDepth 100000
set_option maxHeartbeats 8000000
namespace Go.Proofs.YtjdebcankncfaaaGreat.Am
open Go Go.RowKit Go.Proofs
attribute [local congr] opsP_congr codeP_congr AWP_congr afterR_congr preP_congr afterPre_congr gPre_congr gOps_congr condP_congr stepE_congr
attribute [local go_sem] ty_int ty_bool ty_str ty_u8 ty_ints ty_bytes ty_page ty_pages ty_lpage ty_lpages ty_rec ty_recs ty_lrec ty_lrecs ty_eng ty_leng
attribute [local go_sem] true_and and_true beq_true' beq_false' toNat_cast Int.natCast_nonneg Bool.not_not Bool.not_true Bool.not_false decide_true decide_false Bool.or_false Bool.false_or Bool.or_true Bool.true_or Bool.and_false Bool.false_and Nat.zero_add Int.toNat_of_nonneg wrap_succ wrap_m1 wrap_nat succ_m1 cast0 succ_pos' succ_ne' succ_bne' ge_iff_le gt_iff_lt if_true if_false
attribute [local go_sem] slt_r slt_I slt_p
/-- The objects of an engine, one by one. -/
def s13 (b : Nat) (e : Eng) : Store := [oD (b + 1) e.disk, vO (at' e.disk 0), vO (at' e.disk 1), vO (at' e.disk 2), vO (at' e.disk 3), vO (at' e.disk 4), oD (b + 7) e.mem, vO (at' e.mem 0), vO (at' e.mem 1), vO (at' e.mem 2), vO (at' e.mem 3), vO (at' e.mem 4), oR8 e.log]
abbrev dW (e : Eng) : AV := .agg [.own 0 3 0 5, .own 6 3 0 5, .own 12 8 0 e.log.length, I e.safe, Bo e.down]
def sD (e : Eng) : Store := s13 0 e ++ [some ⟨5, [dW e]⟩]
@[local go_sem] theorem set_d' {l : List Dq} {k j : Nat} {a b : Int} {v : List Int} : (l.map dA).set k (.agg [I a, I b, .own j 1 0 v.length]) = (l.set k (⟨j, ⟨a, b, v⟩⟩ : Dq)).map dA := by rw [List.map_set]
end Go.Proofs.YtjdebcankncfaaaGreat.Am
end
section
set_option linter.unusedVariables false
set_option linter.unusedSimpArgs false
set_option maxRecDepth 100000
set_option maxHeartbeats 8000000
namespace Go.Proofs.YtjdebcankncfaaaGreat.Am
open Go Go.RowKit Go.Proofs
attribute [local go_sem_proc] Nat.reduceAdd Nat.reduceSub Nat.reduceMul Nat.reduceLT Nat.reduceLeDiff Nat.reduceEqDiff Int.reduceBEq Int.reduceBNe Int.reduceNeg Int.reduceSub Int.reduceLE Int.reduceLT
attribute [local go_sem_proc ↓] reduceIte
attribute [local congr] opsP_congr codeP_congr AWP_congr afterR_congr preP_congr afterPre_congr gPre_congr gOps_congr condP_congr stepE_congr
attribute [local go_sem] ty_int ty_bool ty_str ty_u8 ty_ints ty_bytes ty_page ty_pages ty_lpage ty_lpages ty_rec ty_recs ty_lrec ty_lrecs ty_eng ty_leng
attribute [local go_sem] true_and and_true beq_true' beq_false' toNat_cast Int.natCast_nonneg Bool.not_not Bool.not_true Bool.not_false decide_true decide_false Bool.or_false Bool.false_or Bool.or_true Bool.true_or Bool.and_false Bool.false_and Nat.zero_add Int.toNat_of_nonneg wrap_succ wrap_m1 wrap_nat succ_m1 cast0 succ_pos' succ_ne' succ_bne' ge_iff_le gt_iff_lt if_true if_false
section
attribute [local go_sem] slt_r slt_I slt_p
end
section
attribute [local go_sem] slt_r slt_I slt_p
end
end Go.Proofs.YtjdebcankncfaaaGreat.Am
end
section
set_option linter.unusedVariables false
set_option linter.unusedSimpArgs false
set_option maxRecDepth 100000
set_option maxHeartbeats 8000000
namespace Go.Proofs.YtjdebcankncfaaaGreat.Am
open Go Go.RowKit Go.Proofs
attribute [local congr] opsP_congr codeP_congr AWP_congr afterR_congr preP_congr afterPre_congr gPre_congr gOps_congr condP_congr stepE_congr
attribute [local go_sem] ty_int ty_bool ty_str ty_u8 ty_ints ty_bytes ty_page ty_pages ty_lpage ty_lpages ty_rec ty_recs ty_lrec ty_lrecs ty_eng ty_leng
attribute [local go_sem] true_and and_true beq_true' beq_false' toNat_cast Int.natCast_nonneg Bool.not_not Bool.not_true Bool.not_false decide_true decide_false Bool.or_false Bool.false_or Bool.or_true Bool.true_or Bool.and_false Bool.false_and Nat.zero_add Int.toNat_of_nonneg wrap_succ wrap_m1 wrap_nat succ_m1 cast0 succ_pos' succ_ne' succ_bne' ge_iff_le gt_iff_lt if_true if_false
section
attribute [local go_sem] slt_r slt_I slt_p
theorem sD_len {e : Eng} : (sD e).length = 14 := rfl
end
section
attribute [local go_sem] slt_r slt_I slt_p
end
section
attribute [local go_sem] slt_r slt_I slt_p
end
end Go.Proofs.YtjdebcankncfaaaGreat.Am
end
section
set_option linter.unusedVariables false
set_option linter.unusedSimpArgs false
set_option maxRecDepth 100000
set_option maxHeartbeats 8000000
namespace Go.Proofs.YtjdebcankncfaaaGreat.Am
open Go Go.RowKit Go.Proofs
attribute [local go_sem_proc] Nat.reduceAdd Nat.reduceSub Nat.reduceMul Nat.reduceLT Nat.reduceLeDiff Nat.reduceEqDiff Int.reduceBEq Int.reduceBNe Int.reduceNeg Int.reduceSub Int.reduceLE Int.reduceLT
attribute [local go_sem_proc ↓] reduceIte
attribute [local congr] opsP_congr codeP_congr AWP_congr afterR_congr preP_congr afterPre_congr gPre_congr gOps_congr condP_congr stepE_congr
attribute [local go_sem] ty_int ty_bool ty_str ty_u8 ty_ints ty_bytes ty_page ty_pages ty_lpage ty_lpages ty_rec ty_recs ty_lrec ty_lrecs ty_eng ty_leng
attribute [local go_sem] true_and and_true beq_true' beq_false' toNat_cast Int.natCast_nonneg Bool.not_not Bool.not_true Bool.not_false decide_true decide_false Bool.or_false Bool.false_or Bool.or_true Bool.true_or Bool.and_false Bool.false_and Nat.zero_add Int.toNat_of_nonneg wrap_succ wrap_m1 wrap_nat succ_m1 cast0 succ_pos' succ_ne' succ_bne' ge_iff_le gt_iff_lt if_true if_false
section
attribute [local go_sem] slt_r slt_I slt_p
def cells (e : Eng) : List D := [.sl 3 (e.disk.map pD), .sl 3 (e.mem.map pD), .sl 8 (e.log.map rD), iD e.safe, .prim (.bool e.down)]
end
section
attribute [local go_sem] slt_r slt_I slt_p
end
section
theorem ty_pe : tiOf Tryz.prog 56 = some ⟨false, [.pointer none], 8, .other⟩ := by kernel_rfl
theorem ro_cells {xs : List D} : (AV.ro xs).cells = [AV.ro xs] := rfl
attribute [local go_sem] slt_r slt_I slt_p ty_pe ro_cells
end
section
attribute [local go_sem] slt_r slt_I slt_p ty_pe ro_cells cells yieldR_idx'
section
variable {P : Program}
def stepG (P : Program) (g : Option Bool) (op : Op) (d : Tmp) (tm : List AV) (S : Store) (mv : List Nat) (K : St → Prop) : Prop := match g with
  | none => False
  | some true => afterR P (opR (tiOf P) tm S op) (some d) ⟨tm, S, mv⟩ K
  | some false => K ⟨tm.set d (.tup []), S, mv⟩
theorem stepE_g {ops : Array Oper} {d : Tmp} {op : Op} {ty : TypeId} {ps : String} {af : Array Edge} {j : Nat} {wn : Bool} {tm : List AV} {S : Store} {mv : List Nat} {K : St → Prop} :
    stepE P ops (some ⟨some d, op, ty, ps, af, some (j, wn)⟩) ⟨tm, S, mv⟩ K = stepG P (gdJ ops[j]? tm wn) op d tm S mv K := by
  simp only [stepE, stepG, stepP]
  rfl
theorem stepG_t {op : Op} {d : Tmp} {tm : List AV} {S : Store} {mv : List Nat} {K : St → Prop} : stepG P (some true) op d tm S mv K = afterR P (opR (tiOf P) tm S op) (some d) ⟨tm, S, mv⟩ K := rfl
theorem stepG_f {op : Op} {d : Tmp} {tm : List AV} {S : Store} {mv : List Nat} {K : St → Prop} : stepG P (some false) op d tm S mv K = K ⟨tm.set d (.tup []), S, mv⟩ := rfl
variable {ops : Array Oper} {Inv : Store → Prop}
end
attribute [local go_sem] stepE_g stepG_t stepG_f
end
section
theorem yield_loadX {α : Type} [Inhabited α] {zs : List Value} {n : Nat} {sh : Sh} {z0 : Nat} {f : α → AV} {l : List α} {z k sub : Nat} {v : AV} : yieldR (loadM ⟨true, zs, n, sh⟩ z0 f l z k sub) v = ((z0 = z ∧ k < l.length ∧ sub + zs.length ≤ z) ∧ .agg (((f (at' l (k : Int))).cells.drop sub).take zs.length) = v) := by
  unfold loadM
  rw [loadO_agg]
  unfold yieldR
  simp only [List.length_map]
  refine propext ⟨fun ⟨h, k⟩ => ⟨h, by rw [getM h.2.1] at k; exact k⟩, fun ⟨h, k⟩ => ⟨h, by rw [getM h.2.1]; exact k⟩⟩
theorem yield_loadY {α : Type} [Inhabited α] {zs : List Value} {n : Nat} {sh : Sh} {z0 : Nat} {f : α → AV} {l : List α} {z k sub : Nat} {v : AV} : yieldR (loadM ⟨false, zs, n, sh⟩ z0 f l z k sub) v = ((z0 = z ∧ k < l.length ∧ sub < z) ∧ (f (at' l (k : Int))).cells.getD sub .any = v) := by
  unfold loadM
  rw [loadO_one]
  unfold yieldR
  simp only [List.length_map]
  refine propext ⟨fun ⟨h, k⟩ => ⟨h, by rw [getM h.2.1] at k; exact k⟩, fun ⟨h, k⟩ => ⟨h, by rw [getM h.2.1]; exact k⟩⟩
attribute [local go_sem] slt_r slt_I slt_p yield_loadX yield_loadY sD_len List.append_nil
end
section
attribute [local go_sem] slt_r slt_I slt_p
end
section
attribute [local go_sem] slt_r slt_I slt_p ty_rd ty_ev ty_evs
@[local go_sem] theorem bsE_two {te : TI} {tm : List AV} {x y : Operand} : bsE (some te) tm 2 #[(0, x), (1, y)] = .new (2 * te.zs.length ≤ 16777216 ∧ ((ev tm x).ok = true ∧ (ev tm x).cells.length = te.zs.length) ∧ ((ev tm y).ok = true ∧ (ev tm y).cells.length = te.zs.length))
    ⟨te.zs.length, [ev tm x, ev tm y]⟩ (fun i => .own i te.zs.length 0 2) := by
  simp [bsE, List.range_succ]
theorem fin_dcl {e : Eng} {a b : Int} {vals : List Int} {o0 o1 : Option AObj} {T : Store} (h : e.dr) (hv : vals.length = 3) :
    Fin 0 (.tup [eA e, I a, I b, .own 2 1 0 3]) (o0 :: o1 :: some ⟨1, vals.map I⟩ :: T) [] (fun r S' mv => ∃ q : Eng × Int × Int × List Int, (q.1.dr ∧ q.2.2.2.length = 3) ∧ r = .tup [eA q.1, I q.2.1, I q.2.2.1, ints q.2.2.2] ∧ S' = [] ∧ mv = []) := by
  have hrn : ∀ {K : List Nat} {S : Store} {n0 : Nat} {x : AV}, x.pur0 = true → Rd0 K S n0 x x := fun h => .rn _ _ (.same _ h)
  refine fin_drawn (.tup _ _ (.cons _ _ _ _ (.agg _ _ (.cons _ _ _ _ (hrn rfl) (.cons _ _ _ _ (hrn rfl) (.cons _ _ _ _ (hrn rfl) (.cons _ _ _ _ (hrn rfl) (.cons _ _ _ _ (hrn rfl) .nil)))))) (.cons _ _ _ _ (.of _ _ (hrn rfl)) (.cons _ _ _ _ (.of _ _ (hrn rfl)) (.cons _ _ _ _ (.of _ _ ?_) .nil)))))
    ⟨(e, a, b, vals), ⟨h, hv⟩, rfl, rfl, rfl⟩
  refine .drop 2 1 0 3 ⟨1, vals.map I⟩ _ (by decide) (by simp) rfl rfl (by simp [hv]) ?_
  have : ((vals.map I).drop 0).take 3 = vals.map I := by rw [List.drop_zero, List.take_of_length_le (by simp [hv])]
  rw [this]
  exact isDs_I vals
theorem ownD_dr {e : Eng} {tx page table : Int} (h : (ownD e tx page table).2 = true) : (ownD e tx page table).1.dr := by
  unfold ownD at h ⊢
  by_cases hok : okE e = true
  · rw [if_pos hok]
    exact dr_of (own_inv (inv_of_ok hok) tx page table)
  · rw [if_neg hok] at h
    cases h
theorem DrawChangeLoad_c (l : List Int) (hl : l.length < 4611686018427387904) (hb : Byt l) : FnX 45 [bts l] (fun q : Eng × Int × Int × List Int => q.1.dr ∧ q.2.2.2.length = 3) (fun q => .tup [eA q.1, I q.2.1, I q.2.2.1, ints q.2.2.2]) := by
  refine afnx_awp Tryz.func45 rfl rfl ?_
  refine awp_seqc ?_
  simp -implicitDefEqProofs only [go_sem, Tryz.f45]
  refine awp_seqc ?_
  simp -implicitDefEqProofs only [go_sem, true_and]
  (repeat' (first | ((with_reducible first | refine gon ?_ ?_ | refine gos ?_ ?_ | refine cdn ?_ ?_ | refine cds ?_ ?_ | refine gpn ?_ ?_ | refine gps ?_ ?_) <;> intro h <;> (try simp only [dt, df, gi, gt] at h) <;> try simp -implicitDefEqProofs only [go_sem, *]) | ((with_reducible refine And.intro ?_ ?_); (· first | omega | (simp only [List.length_take]; omega)); try simp -implicitDefEqProofs only [go_sem, *]) | ((with_reducible refine enter_at ([] : List Nat) (M2 := []) (l6Open_c l hl hb) (by decide) ?_ ?_ rfl ?_); (· repeat (first | exact Keeps.nil | (refine Keeps.cons _ _ _ _ _ rfl rfl ?_ ?_; (· first | exact a2_p _ _ | exact a2_1 rfl | exact a2_I _ _)))); (· repeat (first | exact All2.nil | (refine All2.cons _ _ _ _ ?_ ?_; (· first | exact rnT_eX rfl rfl | exact rnT_prim | exact rnT_sl | exact rnT_ref rfl | exact rnT_agg rfl | exact rnT_own rfl | exact rnT_eX5 rfl rfl)))); rintro l' hC; try simp -implicitDefEqProofs only [go_sem, *])))
  refine awp_seqc ?_
  simp -implicitDefEqProofs only [go_sem, true_and]
  refine pick_atI (i := 1) (p := 0) hC rfl (by decide) (by decide) ?_
  rintro k1 hk1
  simp -implicitDefEqProofs only [go_sem, true_and]
  (repeat' (first | ((with_reducible first | refine gon ?_ ?_ | refine gos ?_ ?_ | refine cdn ?_ ?_ | refine cds ?_ ?_ | refine gpn ?_ ?_ | refine gps ?_ ?_) <;> intro h <;> (try simp only [dt, df, gi, gt] at h) <;> try simp -implicitDefEqProofs only [go_sem, *]) | ((with_reducible refine And.intro ?_ ?_); (· first | omega | (simp only [List.length_take]; omega)); try simp -implicitDefEqProofs only [go_sem, *]) | first | ((refine pick_atI (i := 1) hC rfl ?_ ?_ ?_); (· omega); (· first | decide | omega); rintro k hk; try simp -implicitDefEqProofs only [go_sem, *]) | fail))
  rename_i k2 hk2
  refine awp_cut (fun q : List Int × Nat => ⟨(bts l :: .any :: .ref 0 5 0 0 :: I 0 :: I 0 :: nilS :: .ref 1 2 0 0 :: .own 2 1 0 3 :: .any :: .any :: .any :: .any :: .any :: .any :: .any :: .any :: .any :: .any :: .any :: .any :: .any :: .any :: .any :: .any :: .any :: .any :: .any :: .any :: .any :: .any :: .any :: .any :: .any :: .any :: .any :: .any :: .any :: .any :: .any :: .any :: .any :: .any :: .any :: .any :: .any :: .any :: .any :: .any :: .any :: .any :: .any :: .any :: .any :: .any :: .any :: .any :: .any :: .any :: .any :: .any :: .any :: .any :: .any :: .any :: .any :: .any :: .any :: .any :: .any :: .any :: .any :: .any :: .any :: .any :: .any :: .any :: .any :: .any :: .any :: .any :: .any :: .any :: .any :: .any :: .any :: .any :: .any :: .any :: .any :: .any :: .any :: .any :: .any :: .any :: .any :: .any :: .any :: .any :: .any :: .any :: .any :: .any :: .any :: .any :: .any :: .any :: .any :: .any :: .any :: .any :: .any :: .any :: .any :: .any :: .any :: .any :: .any :: .any :: .any :: []), [some ⟨5, [.agg [.prim (.slice none 0 0), .prim (.slice none 0 0), .prim (.slice none 0 0), I 0, Bo false]]⟩, oR l' q.2, some ⟨1, q.1.map I⟩], []⟩) (fun q => q.1.length = 3 ∧ q.2 ≤ 10) ?_ ?_
  · simp -implicitDefEqProofs only [go_sem, true_and]
    (repeat' (first | ((with_reducible first | refine gon ?_ ?_ | refine gos ?_ ?_ | refine cdn ?_ ?_ | refine cds ?_ ?_ | refine gpn ?_ ?_ | refine gps ?_ ?_) <;> intro h <;> (try simp only [dt, df, gi, gt] at h) <;> try simp -implicitDefEqProofs only [go_sem, *]) | ((with_reducible refine And.intro ?_ ?_); (· first | omega | (simp only [List.length_take]; omega)); try simp -implicitDefEqProofs only [go_sem, *]) | first | ((refine pick_atI (i := 1) hC rfl ?_ ?_ ?_); (· omega); (· first | decide | omega); rintro k3 hk3; try simp -implicitDefEqProofs only [go_sem, *]) | fail))
    · rename_i ka hka kb hkb
      have hkb' : kb = 0 ∨ kb = 1 ∨ kb = 2 := by have : 0 ≤ kb ∧ kb < 3 := hkb; omega
      have hk3' : k3 = 0 ∨ k3 = 1 := by have : 0 ≤ k3 ∧ k3 < 2 := hk3; omega
      refine ⟨⟨by omega, by omega⟩, by omega, ⟨by omega, by omega⟩, ⟨by omega, ?_, ?_⟩, ⟨([k1, IntKind.i64.wrap (1 + k2), k].set kb.toNat (if k3 = 0 then -1 else 10), 6), ⟨by simp, by simp only; omega⟩, ?_⟩⟩
      · rcases hk3' with rfl | rfl <;> rfl
      · rcases hk3' with rfl | rfl <;> rfl
      · rcases hk3' with rfl | rfl <;> rcases hkb' with rfl | rfl | rfl
        all_goals
          refine WkN.trans (wk_tm ?_) (wk_trunc (S := [_, oR l' 6, some ⟨1, _⟩]) (Nat.le_refl _) rfl ?_)
          · repeat (first | exact WL.nil | (with_reducible refine WL.any _ _ _ ?_) | (with_reducible refine WL.same _ _ _ ?_) | (refine WL.eq _ _ _ _ rfl ?_))
          · rfl
    · refine ⟨([k1, IntKind.i64.wrap (1 + k2), k], 4), ⟨rfl, by simp only; omega⟩, ?_⟩
      refine wk_tm ?_; repeat (first | exact WL.nil | (with_reducible refine WL.any _ _ _ ?_) | (with_reducible refine WL.same _ _ _ ?_) | (refine WL.eq _ _ _ _ rfl ?_))
  rintro ⟨vals, p⟩ ⟨hv3, hp⟩
  simp only at hv3 hp
  refine awp_seqc ?_
  simp -implicitDefEqProofs only [go_sem, true_and]
  (repeat' (first | ((with_reducible first | refine gon ?_ ?_ | refine gos ?_ ?_ | refine cdn ?_ ?_ | refine cds ?_ ?_ | refine gpn ?_ ?_ | refine gps ?_ ?_) <;> intro h <;> (try simp only [dt, df, gi, gt] at h) <;> try simp -implicitDefEqProofs only [go_sem, *]) | ((with_reducible refine And.intro ?_ ?_); (· first | omega | (simp only [List.length_take]; omega)); try simp -implicitDefEqProofs only [go_sem, *]) | first | ((with_reducible refine at_readerI (i := 1) ?_ (l72Up_c l' p hC (by omega)) (fun _ _ => rfl) ?_); (· rfl); rintro ⟨e, p2⟩ ⟨h0, h1, h2⟩; simp only at *; try simp -implicitDefEqProofs only [go_sem, *]) | fail))
  refine awp_cut (fun q : Eng × Nat => ⟨(bts l :: .any :: .ref 0 5 0 0 :: I 0 :: I 0 :: nilS :: .ref 1 2 0 0 :: .own 2 1 0 3 :: .ref 3 5 0 0 :: .any :: .any :: .any :: .any :: .any :: .any :: .any :: .any :: .any :: .any :: .any :: .any :: .any :: .any :: .any :: .any :: .any :: .any :: .any :: .any :: .any :: .any :: .any :: .any :: .any :: .any :: .any :: .any :: .any :: .any :: .any :: .any :: .any :: .any :: .any :: .any :: .any :: .any :: .any :: .any :: .any :: .any :: .any :: .any :: .any :: .any :: .any :: .any :: .any :: .any :: .any :: .any :: .any :: .any :: .any :: .any :: .any :: .any :: .any :: .any :: .any :: .any :: .any :: .any :: .any :: .any :: .any :: .any :: .any :: .any :: .any :: .any :: .any :: .any :: .any :: .any :: .any :: .any :: .any :: .any :: .any :: .any :: .any :: .any :: .any :: .any :: .any :: .any :: .any :: .any :: .any :: .any :: .any :: .any :: .any :: .any :: .any :: .any :: .any :: .any :: .any :: .any :: .any :: .any :: .any :: .any :: .any :: .any :: .any :: .any :: []), [some ⟨5, [.agg [.prim (.slice none 0 0), .prim (.slice none 0 0), .prim (.slice none 0 0), I 0, Bo false]]⟩, oR l' q.2, some ⟨1, vals.map I⟩, some ⟨5, [eA q.1]⟩], []⟩) (fun q => q.1.dr ∧ q.2 ≤ 90000) ?_ ?_
  rotate_left
  · rintro ⟨e, p⟩ ⟨hdr, hp⟩
    simp only at hdr hp ⊢
    refine awp_seqc ?_
    refine cp_drawG (id := 20) 11 (fun S => getO S 3 = some ⟨5, [eA e]⟩) mixed rfl ?_
    ((refine expG_get 0 (eA e) rfl ?_ ?_ ?_ ?_ ?_); (· decide +kernel); (· decide +kernel); (· rfl); (· (intro S hS0; simp -implicitDefEqProofs only [go_sem, hS0, *])); try simp -implicitDefEqProofs only [go_sem, List.set_cons_succ, List.set_cons_zero])
    ((refine expG_get 1 (.ref 1 2 0 0) rfl ?_ ?_ ?_ ?_ ?_); (· decide +kernel); (· decide +kernel); (· rfl); (· (intro S hS0; simp -implicitDefEqProofs only [go_sem, hS0, *])); try simp -implicitDefEqProofs only [go_sem, List.set_cons_succ, List.set_cons_zero])
    ((refine expG_get 4 (.ref 1 2 0 0) rfl ?_ ?_ ?_ ?_ ?_); (· decide +kernel); (· decide +kernel); (· rfl); (· (intro S hS0; simp -implicitDefEqProofs only [go_sem, hS0, *])); try simp -implicitDefEqProofs only [go_sem, List.set_cons_succ, List.set_cons_zero])
    ((refine expG_get 6 (.own 2 1 0 3) rfl ?_ ?_ ?_ ?_ ?_); (· decide +kernel); (· decide +kernel); (· rfl); (· (intro S hS0; simp -implicitDefEqProofs only [go_sem, hS0, *])); try simp -implicitDefEqProofs only [go_sem, List.set_cons_succ, List.set_cons_zero])
    (repeat' (first | ((with_reducible first | refine gon ?_ ?_ | refine gos ?_ ?_ | refine cdn ?_ ?_ | refine cds ?_ ?_ | refine gpn ?_ ?_ | refine gps ?_ ?_) <;> intro h <;> (try simp only [dt, df, gi, gt] at h) <;> try simp -implicitDefEqProofs only [go_sem, *]) | ((with_reducible refine And.intro ?_ ?_); (· first | omega | (simp only [List.length_take]; omega)); try simp -implicitDefEqProofs only [go_sem, *]) | first | ((refine pick_atI (i := 1) hC rfl ?_ ?_ ?_); (· omega); (· first | decide | omega); rintro k4 hk4; try simp -implicitDefEqProofs only [go_sem, *]) | ((with_reducible refine expG_two 3 5 ?_ ?_ ?_); (· decide +kernel); all_goals (try simp -implicitDefEqProofs only [go_sem, *])) | ((with_reducible refine expG_two 3 7 ?_ ?_ ?_); (· decide +kernel); all_goals (try simp -implicitDefEqProofs only [go_sem, *])) | ((with_reducible refine expG_two 5 3 ?_ ?_ ?_); (· decide +kernel); all_goals (try simp -implicitDefEqProofs only [go_sem, *])) | ((with_reducible refine expG_two 7 3 ?_ ?_ ?_); (· decide +kernel); all_goals (try simp -implicitDefEqProofs only [go_sem, *])) | ((with_reducible refine expG_one 2 ?_ ?_); (· decide +kernel); try simp -implicitDefEqProofs only [go_sem, *]) | ((with_reducible refine expG_one 3 ?_ ?_); (· decide +kernel); try simp -implicitDefEqProofs only [go_sem, *]) | ((with_reducible refine expG_one 5 ?_ ?_); (· decide +kernel); try simp -implicitDefEqProofs only [go_sem, *]) | ((with_reducible refine expG_one 7 ?_ ?_); (· decide +kernel); try simp -implicitDefEqProofs only [go_sem, *]) | ((with_reducible refine expG_one 8 ?_ ?_); (· decide +kernel); try simp -implicitDefEqProofs only [go_sem, *]) | ((with_reducible refine expG_one 9 ?_ ?_); (· decide +kernel); try simp -implicitDefEqProofs only [go_sem, *]) | ((with_reducible refine expG_one 10 ?_ ?_); (· decide +kernel); try simp -implicitDefEqProofs only [go_sem, *]) | ((with_reducible refine expG_end ?_ ?_); (· decide +kernel); try simp -implicitDefEqProofs only [go_sem, *]) | fail))
    all_goals
      refine codeP_sound _ _ _ ?_
      simp -implicitDefEqProofs only [go_sem, true_and]
      exact fin_dcl hdr hv3
  simp -implicitDefEqProofs only [go_sem, true_and]
  refine cp_loop (fun q : Nat × Eng × Nat => ⟨(bts l :: .any :: .ref 0 5 0 0 :: I 0 :: I 0 :: nilS :: .ref 1 2 0 0 :: .own 2 1 0 3 :: .ref 3 5 0 0 :: I (q.1 : Int) :: .any :: .any :: .any :: .any :: .any :: .any :: .any :: .any :: .any :: .any :: .any :: .any :: .any :: .any :: .any :: .any :: .any :: .any :: .any :: .any :: .any :: .any :: .any :: .any :: .any :: .any :: .any :: .any :: .any :: .any :: .any :: .any :: .any :: .any :: .any :: .any :: .any :: .any :: .any :: .any :: .any :: .any :: .any :: .any :: .any :: .any :: .any :: .any :: .any :: .any :: .any :: .any :: .any :: .any :: .any :: .any :: .any :: .any :: .any :: .any :: .any :: .any :: .any :: .any :: .any :: .any :: .any :: .any :: .any :: .any :: .any :: .any :: .any :: .any :: .any :: .any :: .any :: .any :: .any :: .any :: .any :: .any :: .any :: .any :: .any :: .any :: .any :: .any :: .any :: .any :: .any :: .any :: .any :: .any :: .any :: .any :: .any :: .any :: .any :: .any :: .any :: .any :: .any :: .any :: .any :: .any :: .any :: .any :: .any :: []), [some ⟨5, [.agg [.prim (.slice none 0 0), .prim (.slice none 0 0), .prim (.slice none 0 0), I 0, Bo false]]⟩, oR l' q.2.2, some ⟨1, vals.map I⟩, some ⟨5, [eA q.2.1]⟩], []⟩)
    (fun q => q.1 ≤ 5 ∧ q.2.1.dr ∧ q.2.2 ≤ 13000 + 12100 * q.1) (fun q => 5 - q.1) (0, e, p2) ?_ ?_ ?_
  · exact ⟨by simp, h0, by simp only; omega⟩
  · refine wk_tm ?_; repeat (first | exact WL.nil | (with_reducible refine WL.any _ _ _ ?_) | (with_reducible refine WL.same _ _ _ ?_) | (refine WL.eq _ _ _ _ rfl ?_))
  · rintro ⟨i, e, p⟩ ⟨hi5, hdr, hp⟩
    simp only at hi5 hdr hp ⊢
    by_cases hi : i < 5
    · have hi' : (i : Int) < 5 := by omega
      simp -implicitDefEqProofs only [go_sem, hi']
      (repeat' (first | ((with_reducible first | refine gon ?_ ?_ | refine gos ?_ ?_ | refine cdn ?_ ?_ | refine cds ?_ ?_ | refine gpn ?_ ?_ | refine gps ?_ ?_) <;> intro h <;> (try simp only [dt, df, gi, gt] at h) <;> try simp -implicitDefEqProofs only [go_sem, *]) | ((with_reducible refine And.intro ?_ ?_); (· first | omega | (simp only [List.length_take]; omega)); try simp -implicitDefEqProofs only [go_sem, *]) | first | ((refine pick_atI (i := 1) hC rfl ?_ ?_ ?_); (· omega); (· first | decide | omega); rintro k3 hk3; try simp -implicitDefEqProofs only [go_sem, *]) | fail))
      · refine cp_loop (fun q : Nat × Nat => ⟨(bts l :: .any :: .ref 0 5 0 0 :: I 0 :: I 0 :: nilS :: .ref 1 2 0 0 :: .own 2 1 0 3 :: .ref 3 5 0 0 :: I (i : Int) :: I (q.1 : Int) :: .any :: .any :: .any :: .any :: .any :: .any :: .any :: .any :: .any :: .any :: .any :: .any :: .any :: .any :: .any :: .any :: .any :: .any :: .any :: .any :: .any :: .any :: .any :: .any :: .any :: .any :: .any :: .any :: .any :: .any :: .any :: .any :: .any :: .any :: .any :: .any :: .any :: .any :: .any :: .any :: .any :: .any :: .any :: .any :: .any :: .any :: .any :: .any :: .any :: .any :: .any :: .any :: .any :: .any :: .any :: .any :: .any :: .any :: .any :: .any :: .any :: .any :: .any :: .any :: .any :: .any :: .any :: .any :: .any :: .any :: .any :: .any :: .any :: .any :: .any :: .any :: .any :: .any :: .any :: .any :: .any :: .any :: .any :: .any :: .any :: .any :: .any :: .any :: .any :: .any :: .any :: .any :: .any :: .any :: .any :: .any :: .any :: .any :: .any :: .any :: .any :: .any :: .any :: .any :: .any :: .any :: .any :: .any :: []), [some ⟨5, [.agg [.prim (.slice none 0 0), .prim (.slice none 0 0), .prim (.slice none 0 0), I 0, Bo false]]⟩, oR l' q.2, some ⟨1, vals.map I⟩, some ⟨5, [eA e]⟩], []⟩)
          (fun q => q.1 ≤ 5 ∧ q.2 ≤ 13001 + 12100 * i + q.1) (fun q => 5 - q.1) (0, p + 1) ?_ ?_ ?_
        · exact ⟨by simp, by simp only; omega⟩
        · refine wk_tm ?_; repeat (first | exact WL.nil | (with_reducible refine WL.any _ _ _ ?_) | (with_reducible refine WL.same _ _ _ ?_) | (refine WL.eq _ _ _ _ rfl ?_))
        · rintro ⟨j, p⟩ ⟨hj5, hp⟩
          simp only at hj5 hp ⊢
          by_cases hj : j < 5
          · have hj' : (j : Int) < 5 := by omega
            have hje : (j : Int) < (e.mem.length : Int) := by have := hdr.mem; omega
            have hwj : IntKind.i64.wrap ((j : Int) + 1) = ((j + 1 : Nat) : Int) := by rw [wrap_ok (by omega) (by omega)]; omega
            have hsm := dr_small hdr
            have c1 := EngineLockS_fn e (j : Int) hsm
            by_cases hlk : 0 < lockE e (j : Int)
            · have hok : okE e = true := by
                unfold lockE at hlk
                split at hlk
                · rename_i h; exact h.1
                · omega
              have hw := (inv_of_ok hok).wf
              have c2 := l1Empty_fn (at' e.mem (j : Int)) (hsm.mv _ (at_mem _ j (by omega)))
              have c3 := l12Took_fn e.log (lockE e (j : Int)) (j : Int) hw
              have hlk1 : (0 : Int) < (lockE e (j : Int) : Int) := by omega
              have hlk2 : (((lockE e (j : Int) : Nat) : Int) == 0) = false := by simp; omega
              clear hok hlk
              simp -implicitDefEqProofs only [go_sem, hj', hlk1, hlk2, hwj]
              (repeat' (first | ((with_reducible first | refine gon ?_ ?_ | refine gos ?_ ?_ | refine cdn ?_ ?_ | refine cds ?_ ?_ | refine gpn ?_ ?_ | refine gps ?_ ?_) <;> intro h <;> (try simp only [dt, df, gi, gt] at h) <;> try simp -implicitDefEqProofs only [go_sem, *]) | ((with_reducible refine And.intro ?_ ?_); (· first | omega | (simp only [List.length_take]; omega)); try simp -implicitDefEqProofs only [go_sem, *]) | first | ((with_reducible refine enter_pu (c1) ?_ ?_ ?_); (· rfl); (· rfl); try simp -implicitDefEqProofs only [go_sem, *]) | ((with_reducible refine enter_pu (c2) ?_ ?_ ?_); (· rfl); (· rfl); try simp -implicitDefEqProofs only [go_sem, *]) | ((with_reducible refine enter_pu (c3) ?_ ?_ ?_); (· rfl); (· rfl); try simp -implicitDefEqProofs only [go_sem, *]) | fail))
              all_goals first
                | exact fin_dcl hdr hv3
                | ((refine ⟨(j + 1, p), ⟨by simp only; omega, by simp only; omega⟩, by simp only; omega, ?_⟩); refine wk_tm ?_; repeat (first | exact WL.nil | (with_reducible refine WL.any _ _ _ ?_) | (with_reducible refine WL.same _ _ _ ?_) | (refine WL.eq _ _ _ _ rfl ?_)))
            · have hlk0 : lockE e (j : Int) = 0 := by omega
              rw [hlk0] at c1
              have c4 := ChangeOwnS_fn e 1 (j : Int) 1 hsm
              have hown := ownD_dr (e := e) (tx := 1) (page := (j : Int)) (table := 1)
              obtain ⟨⟨q1, b⟩, hq⟩ : ∃ q, ownD e 1 (j : Int) 1 = q := ⟨_, rfl⟩
              rw [hq] at c4 hown
              simp only at c4 hown
              clear hlk hlk0 hq
              have hz : ((((0 : Nat) : Int)) == 0) = true := rfl
              have hz2 : ¬ ((0 : Int) < ((0 : Nat) : Int)) := by omega
              simp -implicitDefEqProofs only [go_sem, hj', hwj, hz, hz2]
              (repeat' (first | ((with_reducible first | refine gon ?_ ?_ | refine gos ?_ ?_ | refine cdn ?_ ?_ | refine cds ?_ ?_ | refine gpn ?_ ?_ | refine gps ?_ ?_) <;> intro h <;> (try simp only [dt, df, gi, gt] at h) <;> try simp -implicitDefEqProofs only [go_sem, *]) | ((with_reducible refine And.intro ?_ ?_); (· first | omega | (simp only [List.length_take]; omega)); try simp -implicitDefEqProofs only [go_sem, *]) | first | ((with_reducible refine enter_pu (c1) ?_ ?_ ?_); (· rfl); (· rfl); try simp -implicitDefEqProofs only [go_sem, *]) | ((with_reducible refine enter_pu (c4) ?_ ?_ ?_); (· rfl); (· rfl); try simp -implicitDefEqProofs only [go_sem, *]) | ((refine pick_atI (i := 1) hC rfl ?_ ?_ ?_); (· omega); (· first | decide | omega); rintro k4 hk4; try simp -implicitDefEqProofs only [go_sem, *]) | fail))
              all_goals first
                | exact fin_dcl (hown ‹_›) hv3
                | ((refine ⟨(j + 1, p), ⟨by simp only; omega, by simp only; omega⟩, by simp only; omega, ?_⟩); (refine wk_tm ?_; repeat (first | exact WL.nil | (with_reducible refine WL.any _ _ _ ?_) | (with_reducible refine WL.same _ _ _ ?_) | (refine WL.eq _ _ _ _ rfl ?_))); done)
                | ((refine ⟨(j + 1, p + 1), ⟨by simp only; omega, by simp only; omega⟩, by simp only; omega, ?_⟩); (refine wk_tm ?_; repeat (first | exact WL.nil | (with_reducible refine WL.any _ _ _ ?_) | (with_reducible refine WL.same _ _ _ ?_) | (refine WL.eq _ _ _ _ rfl ?_))); done)
                | ((refine ⟨(j + 1, p + 1), ⟨by simp only; omega, by simp only; omega⟩, by simp only; omega, ?_⟩);
                   (refine WkN.trans (wk_tm ?_) (wk_trunc (S := [_, oR l' (p + 1), some ⟨1, vals.map I⟩, some ⟨5, [eA e]⟩]) (Nat.le_refl _) rfl (by first | rfl | (simp only [sltB, List.all_cons, List.all_nil, slt_p, slt_I, slt_r, Bool.and_true]; done) | (simp only [sltB, List.all_cons, List.all_nil, slt_p, slt_I, slt_r, Bool.and_true]; rfl)))); (repeat (first | exact WL.nil | (with_reducible refine WL.any _ _ _ ?_) | (with_reducible refine WL.same _ _ _ ?_) | (refine WL.eq _ _ _ _ rfl ?_))); done)
          · have hj' : ¬ (j : Int) < 5 := by omega
            have hwi : IntKind.i64.wrap ((i : Int) + 1) = ((i + 1 : Nat) : Int) := by rw [wrap_ok (by omega) (by omega)]; omega
            simp -implicitDefEqProofs only [go_sem, hj']
            (repeat' (first | ((with_reducible first | refine gon ?_ ?_ | refine gos ?_ ?_ | refine cdn ?_ ?_ | refine cds ?_ ?_ | refine gpn ?_ ?_ | refine gps ?_ ?_) <;> intro h <;> (try simp only [dt, df, gi, gt] at h) <;> try simp -implicitDefEqProofs only [go_sem, *]) | ((with_reducible refine And.intro ?_ ?_); (· first | omega | (simp only [List.length_take]; omega)); try simp -implicitDefEqProofs only [go_sem, *]) | first | ((with_reducible refine at_readerI (i := 1) ?_ (l72Up_c l' p hC (by omega)) (fun _ _ => rfl) ?_); (· rfl); rintro ⟨e2, p3⟩ ⟨g0, g1, g2⟩; simp only at *; try simp -implicitDefEqProofs only [go_sem, *]) | fail))
            refine ⟨(i + 1, e2, p3), ⟨by simp only; omega, g0, by simp only; omega⟩, by simp only; omega, ?_⟩
            refine wk_tm ?_; repeat (first | exact WL.nil | (with_reducible refine WL.any _ _ _ ?_) | (with_reducible refine WL.same _ _ _ ?_) | (refine WL.eq _ _ _ _ rfl ?_))
      · refine ⟨(e, p + 1), ⟨hdr, by simp only; omega⟩, ?_⟩
        refine wk_tm ?_; repeat (first | exact WL.nil | (with_reducible refine WL.any _ _ _ ?_) | (with_reducible refine WL.same _ _ _ ?_) | (refine WL.eq _ _ _ _ rfl ?_))
    · have hi' : ¬ (i : Int) < 5 := by omega
      simp -implicitDefEqProofs only [go_sem, hi']
      refine ⟨(e, p), ⟨hdr, by simp only; omega⟩, ?_⟩
      refine wk_tm ?_; repeat (first | exact WL.nil | (with_reducible refine WL.any _ _ _ ?_) | (with_reducible refine WL.same _ _ _ ?_) | (refine WL.eq _ _ _ _ rfl ?_))
end
section
attribute [local go_sem] slt_r slt_I slt_p ty_rd ty_ev ty_evs
theorem fin_dre {e : Eng} {a : Int} {S : Store} (h : e.dr) :
    Fin 0 (.tup [eA e, I a]) S [] (fun r S' mv => ∃ q : Eng × Int, q.1.dr ∧ r = .tup [eA q.1, I q.2] ∧ S' = [] ∧ mv = []) := by
  have hrn : ∀ {K : List Nat} {S : Store} {n0 : Nat} {x : AV}, x.pur0 = true → Rd0 K S n0 x x := fun h => .rn _ _ (.same _ h)
  exact fin_drawn (.tup _ _ (.cons _ _ _ _ (.agg _ _ (.cons _ _ _ _ (hrn rfl) (.cons _ _ _ _ (hrn rfl) (.cons _ _ _ _ (hrn rfl) (.cons _ _ _ _ (hrn rfl) (.cons _ _ _ _ (hrn rfl) .nil)))))) (.cons _ _ _ _ (.of _ _ (hrn rfl)) .nil)))
    ⟨(e, a), h, rfl, rfl, rfl⟩
theorem loadD_dr {e : Eng} {tx page : Int} {vals : List Int} (h : (loadD e tx page vals).2 = true) : (loadD e tx page vals).1.dr := by
  unfold loadD at h ⊢
  by_cases hok : okE e = true
  · rw [if_pos hok]
    exact dr_of (load_inv (inv_of_ok hok) tx page vals)
  · rw [if_neg hok] at h
    cases h
theorem DrawEndLoads_c (l : List Int) (hl : l.length < 4611686018427387904) (hb : Byt l) : FnX 15 [bts l] (fun q : Eng × Int => q.1.dr) (fun q => .tup [eA q.1, I q.2]) := by
  refine afnx_of Tryz.func15 rfl rfl ?_
  simp -implicitDefEqProofs only [go_sem, Tryz.f15]
  (repeat' (first | ((with_reducible first | refine gon ?_ ?_ | refine gos ?_ ?_ | refine cdn ?_ ?_ | refine cds ?_ ?_ | refine gpn ?_ ?_ | refine gps ?_ ?_) <;> intro h <;> (try simp only [dt, df, gi, gt] at h) <;> try simp -implicitDefEqProofs only [go_sem, *]) | ((with_reducible refine And.intro ?_ ?_); (· first | omega | (simp only [List.length_take]; omega)); try simp -implicitDefEqProofs only [go_sem, *]) | first | ((with_reducible refine enter_at ([] : List Nat) (M2 := []) (l6Open_c l hl hb) (by decide) ?_ ?_ rfl ?_); (· repeat (first | exact Keeps.nil | (refine Keeps.cons _ _ _ _ _ rfl rfl ?_ ?_; (· first | exact a2_p _ _ | exact a2_1 rfl | exact a2_I _ _)))); (· repeat (first | exact All2.nil | (refine All2.cons _ _ _ _ ?_ ?_; (· first | exact rnT_eX rfl rfl | exact rnT_prim | exact rnT_sl | exact rnT_ref rfl | exact rnT_agg rfl | exact rnT_own rfl | exact rnT_eX5 rfl rfl)))); rintro l' hC; try simp -implicitDefEqProofs only [go_sem, *]) | fail))
  (repeat' (first | ((with_reducible first | refine gon ?_ ?_ | refine gos ?_ ?_ | refine cdn ?_ ?_ | refine cds ?_ ?_ | refine gpn ?_ ?_ | refine gps ?_ ?_) <;> intro h <;> (try simp only [dt, df, gi, gt] at h) <;> try simp -implicitDefEqProofs only [go_sem, *]) | ((with_reducible refine And.intro ?_ ?_); (· first | omega | (simp only [List.length_take]; omega)); try simp -implicitDefEqProofs only [go_sem, *]) | first | ((with_reducible refine enter_at ([] : List Nat) (M2 := []) (DrawChangeLoad_c l hl hb) (by decide) ?_ ?_ rfl ?_); (· repeat (first | exact Keeps.nil | (refine Keeps.cons _ _ _ _ _ rfl rfl ?_ ?_; (· first | exact a2_p _ _ | exact a2_1 rfl | exact a2_I _ _)))); (· repeat (first | exact All2.nil | (refine All2.cons _ _ _ _ ?_ ?_; (· first | exact rnT_eX rfl rfl | exact rnT_prim | exact rnT_sl | exact rnT_ref rfl | exact rnT_agg rfl | exact rnT_own rfl | exact rnT_eX5 rfl rfl)))); rintro ⟨e, tx, page, vals⟩ ⟨hdr, hv3⟩; try simp -implicitDefEqProofs only [go_sem, *]) | fail))
  simp only at hdr hv3
  have c2 := ChangeLoadS_fn e tx page vals (dr_small hdr) (by omega)
  have hx := loadD_dr (e := e) (tx := tx) (page := page) (vals := vals)
  obtain ⟨⟨x, b⟩, hq⟩ : ∃ q, loadD e tx page vals = q := ⟨_, rfl⟩
  rw [hq] at c2 hx
  simp only at c2 hx
  clear hq
  rcases b with _ | _
  · (repeat' (first | ((with_reducible first | refine gon ?_ ?_ | refine gos ?_ ?_ | refine cdn ?_ ?_ | refine cds ?_ ?_ | refine gpn ?_ ?_ | refine gps ?_ ?_) <;> intro h <;> (try simp only [dt, df, gi, gt] at h) <;> try simp -implicitDefEqProofs only [go_sem, *]) | ((with_reducible refine And.intro ?_ ?_); (· first | omega | (simp only [List.length_take]; omega)); try simp -implicitDefEqProofs only [go_sem, *]) | first | ((with_reducible refine enter_pu (c2) ?_ ?_ ?_); (· rfl); (· rfl); try simp -implicitDefEqProofs only [go_sem, *]) | fail))
    exact fin_dre hdr
  · have hxd := hx rfl
    clear hx
    (repeat' (first | ((with_reducible first | refine gon ?_ ?_ | refine gos ?_ ?_ | refine cdn ?_ ?_ | refine cds ?_ ?_ | refine gpn ?_ ?_ | refine gps ?_ ?_) <;> intro h <;> (try simp only [dt, df, gi, gt] at h) <;> try simp -implicitDefEqProofs only [go_sem, *]) | ((with_reducible refine And.intro ?_ ?_); (· first | omega | (simp only [List.length_take]; omega)); try simp -implicitDefEqProofs only [go_sem, *]) | first | ((with_reducible refine enter_pu (c2) ?_ ?_ ?_); (· rfl); (· rfl); try simp -implicitDefEqProofs only [go_sem, *]) | fail))
    refine pick_atI (i := 1) (p := 0) hC rfl (by decide) (by decide) ?_
    rintro k1 hk1
    simp -implicitDefEqProofs only [go_sem, true_and]
    (repeat' (first | ((with_reducible first | refine gon ?_ ?_ | refine gos ?_ ?_ | refine cdn ?_ ?_ | refine cds ?_ ?_ | refine gpn ?_ ?_ | refine gps ?_ ?_) <;> intro h <;> (try simp only [dt, df, gi, gt] at h) <;> try simp -implicitDefEqProofs only [go_sem, *]) | ((with_reducible refine And.intro ?_ ?_); (· first | omega | (simp only [List.length_take]; omega)); try simp -implicitDefEqProofs only [go_sem, *]) | fail))
    all_goals first | exact fin_dre hdr | exact fin_dre hxd
end
section
attribute [local go_sem] slt_r slt_I slt_p ty_rd ty_ev ty_evs yieldR_idx'
theorem LogChainI_fn (l : List Rc) (tx : Int) (hok : logOk l = true) : Fn1 Tryz.prog 20 [recs l, I tx] (ints ((chain l (lastN l tx)).map fun n : Nat => (n : Int))) := by
  have c1 := LogOkI_fn recC l (by have := logOk_len hok; omega)
  rw [hok] at c1
  have c2 := chain_fn lastC l tx (wf_of hok)
  refine fn1_of Tryz.func20 rfl rfl ?_
  simp -implicitDefEqProofs only [go_sem, Tryz.f20]
  (repeat' (first | ((with_reducible first | refine gon ?_ ?_ | refine gos ?_ ?_ | refine cdn ?_ ?_ | refine cds ?_ ?_ | refine gpn ?_ ?_ | refine gps ?_ ?_) <;> intro h <;> (try simp only [dt, df, gi, gt] at h) <;> try simp -implicitDefEqProofs only [go_sem, *]) | ((with_reducible refine And.intro ?_ ?_); (· first | omega | (simp only [List.length_take]; omega)); try simp -implicitDefEqProofs only [go_sem, *]) | first | ((with_reducible refine enter_pu (c1) ?_ ?_ ?_); (· rfl); (· rfl); try simp -implicitDefEqProofs only [go_sem, *]) | ((with_reducible refine enter_pu (c2) ?_ ?_ ?_); (· rfl); (· rfl); try simp -implicitDefEqProofs only [go_sem, *])))
  exact fin_pu rfl rfl
end
section
attribute [local go_sem] slt_r slt_I slt_p ty_rd ty_ev ty_evs yieldR_idx'
theorem pair_at {l : List Int} (h : l.Pairwise (· < ·)) {i : Nat} (h1 : 1 ≤ i) (h2 : i < l.length) : at' l ((i : Int) - 1) < at' l (i : Int) := by
  rw [List.pairwise_iff_getElem] at h
  have := h (i - 1) i (by omega) h2 (by omega)
  have e1 : ((i : Int) - 1).toNat = i - 1 := by omega
  simp only [at', List.getD, e1, Int.toNat_natCast, List.getElem?_eq_getElem h2, List.getElem?_eq_getElem (show i - 1 < l.length by omega), Option.getD_some]
  exact this
theorem among_ld (l : List Rc) (tx : Int) {p : Nat} (hp : p < 5) : amongB (ldTo l tx 5) (p : Int) = loadIn l tx (p : Int) := by
  rw [Bool.eq_iff_iff, among_iff, ldTo_mem]
  constructor
  · rintro ⟨k, _, he, h⟩
    have : p = k := by omega
    rw [this]
    exact h
  · intro h
    exact ⟨p, hp, rfl, h⟩
theorem Loads_law (l : List Int) (hl : l.length < 4611686018427387904) (hb : Byt l) : Fn1 Tryz.prog 4 [bts l] (Bo true) := by
  refine fn1_of Tryz.func4 rfl rfl ?_
  by_cases hlen : (1048576 : Int) < (l.length : Int)
  · simp -implicitDefEqProofs only [go_sem, Tryz.f4, hlen]
    exact fin_pu rfl rfl
  simp -implicitDefEqProofs only [go_sem, Tryz.f4, hlen]
  (repeat' (first | ((with_reducible first | refine gon ?_ ?_ | refine gos ?_ ?_ | refine cdn ?_ ?_ | refine cds ?_ ?_ | refine gpn ?_ ?_ | refine gps ?_ ?_) <;> intro h <;> (try simp only [dt, df, gi, gt] at h) <;> try simp -implicitDefEqProofs only [go_sem, *]) | ((with_reducible refine And.intro ?_ ?_); (· first | omega | (simp only [List.length_take]; omega)); try simp -implicitDefEqProofs only [go_sem, *]) | ((with_reducible refine enter_at ([] : List Nat) (M2 := []) (DrawEndLoads_c l hl hb) (by decide) ?_ ?_ rfl ?_); (· repeat (first | exact Keeps.nil | (refine Keeps.cons _ _ _ _ _ rfl rfl ?_ ?_; (· first | exact a2_p _ _ | exact a2_1 rfl | exact a2_I _ _)))); (· repeat (first | exact All2.nil | (refine All2.cons _ _ _ _ ?_ ?_; (· first | exact rnT_eX rfl rfl | exact rnT_prim | exact rnT_sl | exact rnT_ref rfl | exact rnT_agg rfl | exact rnT_own rfl | exact rnT_eX5 rfl rfl)))); rintro ⟨e, tx⟩ hdr; try simp -implicitDefEqProofs only [go_sem, *])))
  simp only at hdr
  have hsm := dr_small hdr
  have c1 := EndLoadsI_fn e tx hsm
  have c2 := EndLoadsS_fn e tx hsm
  have c0 := okS e hsm
  have hld5 := ldTo_len e.log tx 5
  rcases hok : okE e with _ | _
  · have e1 : loadsE e tx = [] := by unfold loadsE; rw [if_neg (by rw [hok]; decide)]
    rw [hok] at c0
    rw [e1] at c1 c2
    have c3 := ltIntsSame [] (by decide)
    clear hok
    (repeat' (first | ((with_reducible first | refine gon ?_ ?_ | refine gos ?_ ?_ | refine cdn ?_ ?_ | refine cds ?_ ?_ | refine gpn ?_ ?_ | refine gps ?_ ?_) <;> intro h <;> (try simp only [dt, df, gi, gt] at h) <;> try simp -implicitDefEqProofs only [go_sem, *]) | ((with_reducible refine And.intro ?_ ?_); (· first | omega | (simp only [List.length_take]; omega)); try simp -implicitDefEqProofs only [go_sem, *]) | first | ((with_reducible refine enter_pu (c1) ?_ ?_ ?_); (· rfl); (· rfl); try simp -implicitDefEqProofs only [go_sem, *]) | ((with_reducible refine enter_pu (c2) ?_ ?_ ?_); (· rfl); (· rfl); try simp -implicitDefEqProofs only [go_sem, *]) | ((with_reducible refine enter_pu (c3) ?_ ?_ ?_); (· rfl); (· rfl); try simp -implicitDefEqProofs only [go_sem, *]) | ((with_reducible refine enter_pu (c0) ?_ ?_ ?_); (· rfl); (· rfl); try simp -implicitDefEqProofs only [go_sem, *]) | fail))
    all_goals exact fin_pu rfl rfl
  have e1 : loadsE e tx = ldTo e.log tx 5 := by unfold loadsE; rw [if_pos hok]
  rw [hok] at c0
  rw [e1] at c1 c2
  have hi := inv_of_ok hok
  have c3 := ltIntsSame (ldTo e.log tx 5) (by omega)
  have c4 := LogChainI_fn e.log tx hi.log
  have hpw := ldTo_lt e.log tx 5
  have ham : ∀ p : Nat, p < 5 → amongB (ldTo e.log tx 5) (p : Int) = loadIn e.log tx (p : Int) := fun p hp => among_ld e.log tx hp
  obtain ⟨ls, hls⟩ : ∃ ls, ldTo e.log tx 5 = ls := ⟨_, rfl⟩
  rw [hls] at c1 c2 c3 hpw ham hld5
  have hll := lastN_le e.log tx
  have hch : ∀ x ∈ (chain e.log (lastN e.log tx)).map (fun n : Nat => (n : Int)), 1 ≤ x ∧ x ≤ (e.log.length : Int) := fun x hx => by
    obtain ⟨n, hn, rfl⟩ := List.mem_map.1 hx
    obtain ⟨b, rfl, hb⟩ := chain_memP hi.wf _ hll hn
    omega
  have hcl := chain_len e.log (lastN e.log tx)
  obtain ⟨cs, hcs⟩ : ∃ cs, (chain e.log (lastN e.log tx)).map (fun n : Nat => (n : Int)) = cs := ⟨_, rfl⟩
  have hcsl : cs.length ≤ e.log.length := by rw [← hcs, List.length_map]; omega
  have htk : ∀ p : Nat, anyFrom (fun j => (at' e.log (at' cs j - 1)).kind == 3 && (at' e.log (at' cs j - 1)).page == (p : Int)) 0 cs.length = loadIn e.log tx (p : Int) := fun p => by
    rw [Bool.eq_iff_iff, anyFrom_iff]
    unfold loadIn
    rw [List.any_eq_true]
    constructor
    · rintro ⟨j, _, hj, h⟩
      have hm := at_mem cs j hj
      rw [← hcs] at hm
      obtain ⟨n, hn, he⟩ := List.mem_map.1 hm
      refine ⟨n, hn, ?_⟩
      rw [← hcs, ← he] at h
      simpa using h
    · rintro ⟨n, hn, h⟩
      obtain ⟨j, hj, he⟩ := List.mem_iff_getElem.1 hn
      refine ⟨j, Nat.zero_le _, by rw [← hcs, List.length_map]; exact hj, ?_⟩
      have : at' cs (j : Int) = (n : Int) := by rw [← hcs]; simp [at', List.getD, hj, he]
      rw [this]
      simpa using h
  rw [hcs] at hch c4
  have hlen2 := hi.len
  clear hcs hcl hll hls e1
  (repeat' (first | ((with_reducible first | refine gon ?_ ?_ | refine gos ?_ ?_ | refine cdn ?_ ?_ | refine cds ?_ ?_ | refine gpn ?_ ?_ | refine gps ?_ ?_) <;> intro h <;> (try simp only [dt, df, gi, gt] at h) <;> try simp -implicitDefEqProofs only [go_sem, *]) | ((with_reducible refine And.intro ?_ ?_); (· first | omega | (simp only [List.length_take]; omega)); try simp -implicitDefEqProofs only [go_sem, *]) | first | ((with_reducible refine enter_pu (c1) ?_ ?_ ?_); (· rfl); (· rfl); try simp -implicitDefEqProofs only [go_sem, *]) | ((with_reducible refine enter_pu (c2) ?_ ?_ ?_); (· rfl); (· rfl); try simp -implicitDefEqProofs only [go_sem, *]) | ((with_reducible refine enter_pu (c3) ?_ ?_ ?_); (· rfl); (· rfl); try simp -implicitDefEqProofs only [go_sem, *]) | ((with_reducible refine enter_pu (c0) ?_ ?_ ?_); (· rfl); (· rfl); try simp -implicitDefEqProofs only [go_sem, *]) | ((with_reducible refine enter_pu (c4) ?_ ?_ ?_); (· rfl); (· rfl); try simp -implicitDefEqProofs only [go_sem, *]) | fail))
  refine cp_loop (fun p : Nat => ⟨(bts l :: .any :: Bo false :: .ref 0 5 0 0 :: I tx :: ints ls :: ints cs :: I (p : Int) :: .any :: .any :: .any :: .any :: .any :: .any :: .any :: .any :: .any :: .any :: .any :: .any :: .any :: .any :: .any :: .any :: .any :: .any :: .any :: .any :: .any :: .any :: .any :: .any :: .any :: .any :: .any :: .any :: .any :: .any :: .any :: .any :: .any :: .any :: .any :: .any :: .any :: .any :: .any :: .any :: .any :: .any :: .any :: .any :: .any :: .any :: .any :: .any :: .any :: .any :: .any :: .any :: .any :: .any :: .any :: .any :: .any :: .any :: .any :: .any :: .any :: .any :: .any :: .any :: .any :: .any :: .any :: .any :: .any :: .any :: .any :: .any :: .any :: .any :: .any :: .any :: .any :: .any :: .any :: .any :: .any :: .any :: .any :: .any :: .any :: .any :: .any :: []), [some ⟨5, [eA e]⟩], []⟩) (fun p => p ≤ 5) (fun p => 5 - p) 0 (Nat.zero_le _) ?_ ?_
  · refine wk_tm ?_; repeat (first | exact WL.nil | (with_reducible refine WL.any _ _ _ ?_) | (with_reducible refine WL.same _ _ _ ?_) | (refine WL.eq _ _ _ _ rfl ?_))
  rintro p hp5
  by_cases hp : p < 5
  · have hp' : (p : Int) < 5 := by omega
    simp -implicitDefEqProofs only [go_sem, hp']
    refine cp_loop (fun q : Nat × Bool => ⟨(bts l :: .any :: Bo false :: .ref 0 5 0 0 :: I tx :: ints ls :: ints cs :: I (p : Int) :: Bo q.2 :: I (q.1 : Int) :: .any :: .any :: .any :: .any :: .any :: .any :: .any :: .any :: .any :: .any :: .any :: .any :: .any :: .any :: .any :: .any :: .any :: .any :: .any :: .any :: .any :: .any :: .any :: .any :: .any :: .any :: .any :: .any :: .any :: .any :: .any :: .any :: .any :: .any :: .any :: .any :: .any :: .any :: .any :: .any :: .any :: .any :: .any :: .any :: .any :: .any :: .any :: .any :: .any :: .any :: .any :: .any :: .any :: .any :: .any :: .any :: .any :: .any :: .any :: .any :: .any :: .any :: .any :: .any :: .any :: .any :: .any :: .any :: .any :: .any :: .any :: .any :: .any :: .any :: .any :: .any :: .any :: .any :: .any :: .any :: .any :: .any :: .any :: .any :: .any :: []), [some ⟨5, [eA e]⟩], []⟩)
      (fun q => q.1 ≤ cs.length ∧ (q.2 || anyFrom (fun j => (at' e.log (at' cs j - 1)).kind == 3 && (at' e.log (at' cs j - 1)).page == (p : Int)) q.1 cs.length) = loadIn e.log tx (p : Int)) (fun q => cs.length - q.1) (0, false) ?_ ?_ ?_
    · exact ⟨Nat.zero_le _, by rw [Bool.false_or]; exact htk p⟩
    · refine wk_tm ?_; repeat (first | exact WL.nil | (with_reducible refine WL.any _ _ _ ?_) | (with_reducible refine WL.same _ _ _ ?_) | (refine WL.eq _ _ _ _ rfl ?_))
    · rintro ⟨i, t⟩ ⟨hi, hg⟩
      simp only at hi hg ⊢
      by_cases hil : i < cs.length
      · have hil' : (i : Int) < (cs.length : Int) := by omega
        have hci := hch _ (at_mem cs i hil)
        have hw1 : IntKind.i64.wrap (at' cs (i : Int) - 1) = at' cs (i : Int) - 1 := wrap_ok (by omega) (by omega)
        have hwi : IntKind.i64.wrap ((i : Int) + 1) = ((i + 1 : Nat) : Int) := by rw [wrap_ok (by omega) (by omega)]; omega
        have hk0 : 0 ≤ at' cs (i : Int) - 1 := by omega
        have hk1 : at' cs (i : Int) - 1 < (e.log.length : Int) := by omega
        have hk2 : (at' cs (i : Int) - 1).toNat < e.log.length := by omega
        rw [anyFrom_lt hil] at hg
        simp -implicitDefEqProofs only [go_sem, hil', hil]
        refine cp_drawG (id := 15) 11 (fun S => getO S 0 = some ⟨5, [eA e]⟩) mixed rfl ?_
        ((refine expG_get 0 (.ref 0 5 0 2) rfl ?_ ?_ ?_ ?_ ?_); (· decide +kernel); (· decide +kernel); (· rfl); (· (intro S hS0; simp -implicitDefEqProofs only [go_sem, hS0, *])); try simp -implicitDefEqProofs only [go_sem, List.set_cons_succ, List.set_cons_zero])
        ((refine expG_get 1 (recs e.log) rfl ?_ ?_ ?_ ?_ ?_); (· decide +kernel); (· decide +kernel); (· rfl); (· (intro S hS0; simp -implicitDefEqProofs only [go_sem, hS0, *])); try simp -implicitDefEqProofs only [go_sem, List.set_cons_succ, List.set_cons_zero])
        ((refine expG_get 2 (ints cs) rfl ?_ ?_ ?_ ?_ ?_); (· decide +kernel); (· decide +kernel); (· rfl); (· (intro S hS0; simp -implicitDefEqProofs only [go_sem, hS0, *])); try simp -implicitDefEqProofs only [go_sem, List.set_cons_succ, List.set_cons_zero])
        ((refine expG_get 3 (I (i : Int)) rfl ?_ ?_ ?_ ?_ ?_); (· decide +kernel); (· decide +kernel); (· rfl); (· (intro S hS0; simp -implicitDefEqProofs only [go_sem, hS0, *])); try simp -implicitDefEqProofs only [go_sem, List.set_cons_succ, List.set_cons_zero])
        ((refine expG_get 4 (.ro [iD (at' cs (i : Int))]) rfl ?_ ?_ ?_ ?_ ?_); (· decide +kernel); (· decide +kernel); (· rfl); (· (intro S hS0; simp -implicitDefEqProofs only [go_sem, hS0, *])); try simp -implicitDefEqProofs only [go_sem, List.set_cons_succ, List.set_cons_zero])
        ((refine expG_get 5 (I (at' cs (i : Int))) rfl ?_ ?_ ?_ ?_ ?_); (· decide +kernel); (· decide +kernel); (· rfl); (· (intro S hS0; simp -implicitDefEqProofs only [go_sem, hS0, *])); try simp -implicitDefEqProofs only [go_sem, List.set_cons_succ, List.set_cons_zero])
        ((refine expG_get 6 (I (at' cs (i : Int) - 1)) rfl ?_ ?_ ?_ ?_ ?_); (· decide +kernel); (· decide +kernel); (· rfl); (· (intro S hS0; simp -implicitDefEqProofs only [go_sem, hS0, *])); try simp -implicitDefEqProofs only [go_sem, List.set_cons_succ, List.set_cons_zero])
        obtain ⟨r, hr⟩ : ∃ r, at' e.log (at' cs (i : Int) - 1) = r := ⟨_, rfl⟩
        rw [hr] at hg
        ((refine expG_get 7 (.ro [iD r.kind, iD r.tx, iD r.page, iD r.slot, iD r.old, iD r.new, iD r.prev, iD r.next]) rfl ?_ ?_ ?_ ?_ ?_); (· decide +kernel); (· decide +kernel); (· rfl); (· (intro S hS0; simp -implicitDefEqProofs only [go_sem, hS0, *])); try simp -implicitDefEqProofs only [go_sem, List.set_cons_succ, List.set_cons_zero])
        ((refine expG_get 8 (rA r) rfl ?_ ?_ ?_ ?_ ?_); (· decide +kernel); (· decide +kernel); (· rfl); (· (intro S hS0; simp -implicitDefEqProofs only [go_sem, hS0, *])); try simp -implicitDefEqProofs only [go_sem, List.set_cons_succ, List.set_cons_zero])
        clear hch htk ham hpw hcsl hci hk0 hk1 hk2 hw1
        (repeat' (first | ((with_reducible first | refine gon ?_ ?_ | refine gos ?_ ?_ | refine cdn ?_ ?_ | refine cds ?_ ?_ | refine gpn ?_ ?_ | refine gps ?_ ?_) <;> intro h <;> (try simp only [dt, df, gi, gt] at h) <;> try simp -implicitDefEqProofs only [go_sem, *]) | ((with_reducible refine And.intro ?_ ?_); (· first | omega | (simp only [List.length_take]; omega)); try simp -implicitDefEqProofs only [go_sem, *]) | first | ((with_reducible refine expG_one 9 ?_ ?_); (· decide +kernel); try simp -implicitDefEqProofs only [go_sem, *]) | ((with_reducible refine expG_one 10 ?_ ?_); (· decide +kernel); try simp -implicitDefEqProofs only [go_sem, *]) | ((with_reducible refine expG_end ?_ ?_); (· decide +kernel); try simp -implicitDefEqProofs only [go_sem, *]) | fail))
        all_goals first
          | ((refine ⟨(i + 1, false), ⟨by simp only; omega, ?_⟩, by simp only; omega, ?_⟩); (· (rw [← hg]; simp [*])); (· (refine WkN.trans (wk_tm ?_) (wk_trunc (S := [_]) (Nat.le_refl _) rfl (by first | rfl | (simp only [sltB, List.all_cons, List.all_nil, slt_p, slt_I, slt_r, Bool.and_true]; done) | (simp only [sltB, List.all_cons, List.all_nil, slt_p, slt_I, slt_r, Bool.and_true]; rfl)))); (repeat (first | exact WL.nil | (with_reducible refine WL.any _ _ _ ?_) | (with_reducible refine WL.same _ _ _ ?_) | (refine WL.eq _ _ _ _ rfl ?_))); done))
          | ((refine ⟨(i + 1, true), ⟨by simp only; omega, ?_⟩, by simp only; omega, ?_⟩); (· (rw [← hg]; simp [*])); (· (refine WkN.trans (wk_tm ?_) (wk_trunc (S := [_]) (Nat.le_refl _) rfl (by first | rfl | (simp only [sltB, List.all_cons, List.all_nil, slt_p, slt_I, slt_r, Bool.and_true]; done) | (simp only [sltB, List.all_cons, List.all_nil, slt_p, slt_I, slt_r, Bool.and_true]; rfl)))); (repeat (first | exact WL.nil | (with_reducible refine WL.any _ _ _ ?_) | (with_reducible refine WL.same _ _ _ ?_) | (refine WL.eq _ _ _ _ rfl ?_))); done))
          | ((refine ⟨(i + 1, r.page == (p : Int)), ⟨by simp only; omega, ?_⟩, by simp only; omega, ?_⟩); (· (rw [← hg]; simp [*])); (· (refine WkN.trans (wk_tm ?_) (wk_trunc (S := [_]) (Nat.le_refl _) rfl (by first | rfl | (simp only [sltB, List.all_cons, List.all_nil, slt_p, slt_I, slt_r, Bool.and_true]; done) | (simp only [sltB, List.all_cons, List.all_nil, slt_p, slt_I, slt_r, Bool.and_true]; rfl)))); (repeat (first | exact WL.nil | (with_reducible refine WL.any _ _ _ ?_) | (with_reducible refine WL.same _ _ _ ?_) | (refine WL.eq _ _ _ _ rfl ?_))); done))
      · have hil' : ¬ (i : Int) < (cs.length : Int) := by omega
        rw [anyFrom_ge hil, Bool.or_false] at hg
        have c5 := ltAmong_fn ls (p : Int) (by omega)
        rw [ham p hp] at c5
        have hbn : (loadIn e.log tx (p : Int) != loadIn e.log tx (p : Int)) = false := by cases loadIn e.log tx (p : Int) <;> rfl
        have hbe : (loadIn e.log tx (p : Int) == loadIn e.log tx (p : Int)) = true := by cases loadIn e.log tx (p : Int) <;> rfl
        have hwp : IntKind.i64.wrap ((p : Int) + 1) = ((p + 1 : Nat) : Int) := by rw [wrap_ok (by omega) (by omega)]; omega
        subst hg
        simp -implicitDefEqProofs only [go_sem, hil']
        (repeat' (first | ((with_reducible first | refine gon ?_ ?_ | refine gos ?_ ?_ | refine cdn ?_ ?_ | refine cds ?_ ?_ | refine gpn ?_ ?_ | refine gps ?_ ?_) <;> intro h <;> (try simp only [dt, df, gi, gt] at h) <;> try simp -implicitDefEqProofs only [go_sem, *]) | ((with_reducible refine And.intro ?_ ?_); (· first | omega | (simp only [List.length_take]; omega)); try simp -implicitDefEqProofs only [go_sem, *]) | first | ((with_reducible refine enter_pu (c5) ?_ ?_ ?_); (· rfl); (· rfl); try simp -implicitDefEqProofs only [go_sem, *]) | fail))
        refine ⟨p + 1, by omega, by omega, ?_⟩
        refine wk_tm ?_; repeat (first | exact WL.nil | (with_reducible refine WL.any _ _ _ ?_) | (with_reducible refine WL.same _ _ _ ?_) | (refine WL.eq _ _ _ _ rfl ?_))
  · have hp' : ¬ (p : Int) < 5 := by omega
    simp -implicitDefEqProofs only [go_sem, hp']
    refine cp_loop (fun i : Nat => ⟨(bts l :: .any :: Bo false :: .ref 0 5 0 0 :: I tx :: ints ls :: ints cs :: .any :: .any :: .any :: .any :: I (i : Int) :: .any :: .any :: .any :: .any :: .any :: .any :: .any :: .any :: .any :: .any :: .any :: .any :: .any :: .any :: .any :: .any :: .any :: .any :: .any :: .any :: .any :: .any :: .any :: .any :: .any :: .any :: .any :: .any :: .any :: .any :: .any :: .any :: .any :: .any :: .any :: .any :: .any :: .any :: .any :: .any :: .any :: .any :: .any :: .any :: .any :: .any :: .any :: .any :: .any :: .any :: .any :: .any :: .any :: .any :: .any :: .any :: .any :: .any :: .any :: .any :: .any :: .any :: .any :: .any :: .any :: .any :: .any :: .any :: .any :: .any :: .any :: .any :: .any :: .any :: .any :: .any :: .any :: .any :: .any :: .any :: .any :: .any :: .any :: []), [some ⟨5, [eA e]⟩], []⟩) (fun i => 1 ≤ i) (fun i => ls.length - i) 1 (Nat.le_refl _) ?_ ?_
    · refine wk_tm ?_; repeat (first | exact WL.nil | (with_reducible refine WL.any _ _ _ ?_) | (with_reducible refine WL.same _ _ _ ?_) | (refine WL.eq _ _ _ _ rfl ?_))
    rintro i hi1
    by_cases hil : i < ls.length
    · have hil' : (i : Int) < (ls.length : Int) := by omega
      have hlt := pair_at hpw hi1 hil
      have hge : ¬ (at' ls (i : Int) ≤ at' ls ((i : Int) - 1)) := by omega
      have hw1 : IntKind.i64.wrap ((i : Int) - 1) = (i : Int) - 1 := wrap_ok (by omega) (by omega)
      have hwi : IntKind.i64.wrap ((i : Int) + 1) = ((i + 1 : Nat) : Int) := by rw [wrap_ok (by omega) (by omega)]; omega
      have hk0 : 0 ≤ (i : Int) - 1 := by omega
      have hk1 : ((i : Int) - 1).toNat < ls.length := by omega
      simp -implicitDefEqProofs only [go_sem, hil', hge]
      (repeat' (first | ((with_reducible first | refine gon ?_ ?_ | refine gos ?_ ?_ | refine cdn ?_ ?_ | refine cds ?_ ?_ | refine gpn ?_ ?_ | refine gps ?_ ?_) <;> intro h <;> (try simp only [dt, df, gi, gt] at h) <;> try simp -implicitDefEqProofs only [go_sem, *]) | ((with_reducible refine And.intro ?_ ?_); (· first | omega | (simp only [List.length_take]; omega)); try simp -implicitDefEqProofs only [go_sem, *]) | first | ((with_reducible refine cp_draw (id := 22) 10 mixed ?_ ?_ ?_); (· decide +kernel); (· first | (simp only [List.all_cons, List.all_nil, List.length_cons, List.length_nil, Nat.reduceAdd, Nat.reduceLT, decide_true, Bool.and_true, Bool.and_self]; done) | rfl); try simp -implicitDefEqProofs only [go_sem, *]) | fail))
      refine ⟨i + 1, by omega, by omega, ?_⟩
      refine wk_tm ?_; repeat (first | exact WL.nil | (with_reducible refine WL.any _ _ _ ?_) | (with_reducible refine WL.same _ _ _ ?_) | (refine WL.eq _ _ _ _ rfl ?_))
    · have hil' : ¬ (i : Int) < (ls.length : Int) := by omega
      simp -implicitDefEqProofs only [go_sem, hil']
      exact fin_pu rfl rfl
end
end Go.Proofs.YtjdebcankncfaaaGreat.Am
end
