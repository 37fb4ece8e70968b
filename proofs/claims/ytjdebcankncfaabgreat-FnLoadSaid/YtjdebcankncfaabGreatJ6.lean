/- Lemmas and walks: Go Ha Ob Hb Hc Hd Ia Ja Jb Jc Jd Je Jf Jg Jh Ka Kb Xa Xb Xc Xd Xe Xf Xg Xi Xj Xl Xm Xn Xo Xv Xw Xx Xy Xz Ya Kc Ke Kd Kf Kg Kj. No conditions. -/
import Derived.Test.YtjdebcankncfaabGreatJ5
import Derived.Test.YtjdebcankncfaabGreatJ2
import Derived.Laws.Strings
import Derived.Test.YtjdebcankncfaabGreatJ3
import Derived.Test.YtjdebcankncfaabGreatJ4
section
set_option linter.unusedVariables false
set_option linter.unusedSimpArgs false
set_option maxRecDepth 100000
set_option maxHeartbeats 8000000
namespace Go.Proofs.YtjdebcankncfaabGreat.Am
open Go Go.RowKit Go.Proofs
attribute [local go_sem_proc] Nat.reduceAdd Nat.reduceSub Nat.reduceMul Nat.reduceLT Nat.reduceLeDiff Nat.reduceEqDiff Int.reduceBEq Int.reduceBNe Int.reduceNeg Int.reduceSub Int.reduceLE Int.reduceLT
attribute [local go_sem_proc ↓] reduceIte
attribute [local congr] opsP_congr codeP_congr AWP_congr afterR_congr preP_congr afterPre_congr gPre_congr gOps_congr condP_congr stepE_congr
attribute [local go_sem] ty_int ty_bool ty_str ty_u8 ty_ints ty_bytes ty_page ty_pages ty_lpage ty_lpages ty_rec ty_recs ty_lrec ty_lrecs ty_eng ty_leng
attribute [local go_sem] true_and and_true beq_true' beq_false' toNat_cast Int.natCast_nonneg Bool.not_not Bool.not_true Bool.not_false decide_true decide_false Bool.or_false Bool.false_or Bool.or_true Bool.true_or Bool.and_false Bool.false_and Nat.zero_add Int.toNat_of_nonneg wrap_succ wrap_m1 wrap_nat succ_m1 cast0 succ_pos' succ_ne' succ_bne' ge_iff_le gt_iff_lt if_true if_false
attribute [local go_sem] slt_r slt_I slt_p ty_rd ty_ev ty_evs
@[go_sem] theorem rho0 {n i : Nat} : rho [] n i = n + i := by simp [rho]
theorem at_readerI {i : Nat} {f : FuncId} {l : List Int} {p : Nat} {X : Type} {J : X → Prop} {R : X → AV} {pos : X → Nat} {d : Tmp} {tm : List AV} {T : Store} {mv : List Nat} {K : St → Prop} (hi : T[i]? = some (oR l p)) (h : AFnX Tryz.prog f [.ref 0 2 0 0] [oR l p] J R (fun q => [oR l (pos q)]) [])
    (hR : ∀ q ρ, (R q).rn ρ = R q) (hk : ∀ q, J q → K ⟨tm.set d (R q), T.set i (oR l (pos q)), mv⟩) : afterR Tryz.prog (.enter f [.ref i 2 0 0]) (some d) ⟨tm, T, mv⟩ K := by
  refine enter_at [i] (M2 := []) h (by simp) (.cons _ _ _ _ _ hi rfl (a2_1 rfl) .nil) (.cons _ _ _ _ (rnT_ref rfl) .nil) rfl fun q hq => ?_
  have := hk q hq
  rw [hR]
  simpa only [scT_nil, scS_nil, putS_cons, putS_nil, rnO_agg, rn0_sl, rn0_prim, List.map_cons, List.map_nil, List.nil_append] using this
theorem pick_atI {i : Nat} {l : List Int} {p : Nat} {n : Int} {d : Tmp} {tm : List AV} {T : Store} {mv : List Nat} {K : St → Prop} (h : Cod l) (hi : T[i]? = some (oR l p)) (hp : p < 1000000) (hn : 1 ≤ n) (hk : ∀ k, PickJ n k → K ⟨tm.set d (I k), T.set i (oR l (p + 1)), mv⟩) :
    afterR Tryz.prog (.enter 21 [.ref i 2 0 0, I n]) (some d) ⟨tm, T, mv⟩ K := by
  refine enter_at [i] (M2 := []) (pick_c' h hp hn) (by simp) (.cons _ _ _ _ _ hi rfl (a2_1 rfl) .nil) (.cons _ _ _ _ (rnT_ref rfl) (.cons _ _ _ _ rnT_prim .nil)) rfl fun k hk' => ?_
  have := hk k hk'
  simpa only [scT_nil, scS_nil, putS_cons, putS_nil, rn_prim, rnO_agg, rn0_sl, rn0_prim, List.map_cons, List.map_nil, List.nil_append] using this
/-- What a drawn engine is like. -/
structure Eng.dr (e : Eng) : Prop where
  disk : e.disk.length = 5
  mem : e.mem.length = 5
  log : e.log.length ≤ 152
  dv : ∀ p ∈ e.disk, p.vals.length ≤ 3
  mv : ∀ p ∈ e.mem, p.vals.length ≤ 3
theorem rgs_vals {ps : List Pg} (h : Rgs ps) : ∀ p ∈ ps, p.vals.length ≤ 3 := fun p hp => by
  obtain ⟨k, hk, rfl⟩ := mem_at hp
  have := (h.rg k (by rw [h.len] at hk; exact hk)).len
  omega
theorem dr_of {e : Eng} (h : Inv e) : e.dr := ⟨h.disk.len, h.mem.len, by have := h.len; omega, rgs_vals h.disk, rgs_vals h.mem⟩
theorem rd_pgs {K : List Nat} {S : Store} {n0 i : Nat} {ps : List Pg} (hi : n0 ≤ i) (hK : i ∉ K) (ho : getO S i = some ⟨3, ps.map pA⟩) (hl : ps.length = 5) : Rd0 K S n0 (.own i 3 0 5) (pgs ps) :=
  .drop i 3 0 5 _ _ hi hK ho rfl (by simp [hl]) (by have := isDs_p ps; simpa [List.take_of_length_le, hl] using this)
theorem rd_recs {K : List Nat} {S : Store} {n0 i n : Nat} {l : List Rc} (hi : n0 ≤ i) (hK : i ∉ K) (ho : getO S i = some ⟨8, l.map rA⟩) (hl : n = l.length) : Rd0 K S n0 (.own i 8 0 n) (recs l) := dropR hi hK ho hl
theorem fin_eng {l : List Int} {T : Store} {p p' : Nat} {a b : List Pg} {c : List Rc} {s : Int} {d : Bool} {x : AV} (h2 : getO (oR l p' :: T) 2 = some ⟨3, a.map pA⟩) (h3 : getO (oR l p' :: T) 3 = some ⟨3, b.map pA⟩) (hx : Rd0 [0] (oR l p' :: T) 1 x (recs c)) (hd : (⟨a, b, c, s, d⟩ : Eng).dr) (q1 : p ≤ p') (q2 : p' ≤ p + 1800) :
    Fin 1 (.agg [.own 2 3 0 5, .own 3 3 0 5, x, I s, Bo d]) (oR l p' :: T) [] (fun r S' mv => ∃ y : Eng × Nat, (y.1.dr ∧ p ≤ y.2 ∧ y.2 ≤ p + 1800) ∧ r = eA y.1 ∧ S' = [oR l y.2] ∧ mv = []) :=
  fin_drop [0] [] (by simp) rfl (by decide) (keep1 (ob := ⟨2, [.agg [bts l, I (p' : Int)]]⟩) rfl (a2_1 rfl)) (hdR (o := ⟨2, [.agg [bts l, I (p' : Int)]]⟩) rfl (by simp) rfl rfl)
    (.of _ _ (.agg _ _ (.cons _ _ _ _ (rd_pgs (by decide) (by decide) h2 hd.disk) (.cons _ _ _ _ (rd_pgs (by decide) (by decide) h3 hd.mem) (.cons _ _ _ _ hx (.cons _ _ _ _ (.rn _ _ (.same _ rfl)) (.cons _ _ _ _ (.rn _ _ (.same _ rfl)) .nil))))))) ⟨(⟨a, b, c, s, d⟩, p'), ⟨hd, q1, q2⟩, rfl, rfl, rfl⟩
theorem dr_mem {a b : List Pg} {c : List Rc} {s s' : Int} {d d' : Bool} (h : (⟨a, b, c, s, d⟩ : Eng).dr) (k : Nat) {q : Pg} (hq : q.vals.length ≤ 3) : (⟨a, b.set k q, c, s', d'⟩ : Eng).dr :=
  ⟨h.disk, by have := h.mem; simpa using this, h.log, h.dv, fun p hp => by
    rcases List.mem_or_eq_of_mem_set hp with h1 | rfl
    · exact h.mv p h1
    · exact hq⟩
theorem dr_disk {a b : List Pg} {c : List Rc} {s s' : Int} {d d' : Bool} (h : (⟨a, b, c, s, d⟩ : Eng).dr) (k : Nat) {q : Pg} (hq : q.vals.length ≤ 3) : (⟨a.set k q, b, c, s', d'⟩ : Eng).dr :=
  ⟨by have := h.disk; simpa using this, h.mem, h.log, fun p hp => by
    rcases List.mem_or_eq_of_mem_set hp with h1 | rfl
    · exact h.dv p h1
    · exact hq, h.mv⟩
theorem dr_log {a b : List Pg} {c c' : List Rc} {s s' : Int} {d d' : Bool} (h : (⟨a, b, c, s, d⟩ : Eng).dr) (hc : c'.length ≤ 152) : (⟨a, b, c', s', d'⟩ : Eng).dr := ⟨h.disk, h.mem, hc, h.dv, h.mv⟩
theorem l72Engine_c (l : List Int) (p : Nat) (hC : Cod l) (hp : p < 600000) : AFnX Tryz.prog 65 [.ref 0 2 0 0] [oR l p] (fun q : Eng × Nat => q.1.dr ∧ p ≤ q.2 ∧ q.2 ≤ p + 1800) (fun q => eA q.1) (fun q => [oR l q.2]) [] := by
  refine afnx_of Tryz.func65 rfl rfl ?_
  simp -implicitDefEqProofs only [go_sem, Tryz.f65]
  (repeat' (first | ((with_reducible first | refine gon ?_ ?_ | refine gos ?_ ?_ | refine cdn ?_ ?_ | refine cds ?_ ?_ | refine gpn ?_ ?_ | refine gps ?_ ?_) <;> intro h <;> (try simp only [dt, df, gi, gt] at h) <;> try simp -implicitDefEqProofs only [go_sem, *]) | ((with_reducible refine And.intro ?_ ?_); (· first | omega | (simp only [List.length_take]; omega)); try simp -implicitDefEqProofs only [go_sem, *]) | ((with_reducible refine enter_at [0] (M2 := []) (l71Play_c l p hC (by omega)) (by decide) ?_ ?_ rfl ?_); (· repeat (first | exact Keeps.nil | (refine Keeps.cons _ _ _ _ _ rfl rfl ?_ ?_; (· first | exact a2_p _ _ | exact a2_1 rfl | exact a2_I _ _)))); (· repeat (first | exact All2.nil | (refine All2.cons _ _ _ _ ?_ ?_; (· first | exact rnT_eX rfl rfl | exact rnT_prim | exact rnT_sl | exact rnT_ref rfl | exact rnT_agg rfl | exact rnT_own rfl | exact rnT_eX5 rfl rfl)))); rintro ⟨⟨ca, cb, cc, cs, cd⟩, p1⟩ ⟨hic, hp1, hp2⟩; try simp -implicitDefEqProofs only [go_sem, *])))
  simp only at hic hp1 hp2
  have hcl : cc.length ≤ 150 := hic.toInv.len
  have hdr := dr_of hic.toInv
  have ha5 : ca.length = 5 := hdr.disk
  have hb5 : cb.length = 5 := hdr.mem
  have hwr : IntKind.i64.wrap ((cc.length : Int) + 2) = (cc.length : Int) + 2 := wrap_ok (by omega) (by omega)
  (repeat' (first | ((with_reducible first | refine gon ?_ ?_ | refine gos ?_ ?_ | refine cdn ?_ ?_ | refine cds ?_ ?_ | refine gpn ?_ ?_ | refine gps ?_ ?_) <;> intro h <;> (try simp only [dt, df, gi, gt] at h) <;> try simp -implicitDefEqProofs only [go_sem, *]) | ((with_reducible refine And.intro ?_ ?_); (· first | omega | (simp only [List.length_take]; omega)); try simp -implicitDefEqProofs only [go_sem, *]) | first | ((with_reducible refine pick_at hC ?_ ?_ ?_); (· omega); (· first | decide | omega); rintro k1 hk1; try simp -implicitDefEqProofs only [go_sem, *]) | ((with_reducible refine at_reader (l71Log_c l _ hC (by omega)) (fun _ _ => rfl) ?_); rintro ⟨x, p2⟩ ⟨h0, h1, h2⟩; simp only at *; try simp -implicitDefEqProofs only [go_sem, *])))
  all_goals try (refine fin_eng rfl rfl (rd_recs (by decide) (by decide) rfl rfl) (dr_log hdr (by omega)) ?_ ?_ <;> omega)
  · refine cp_drawG (id := 6) 8 (fun S => getO S 5 = some ⟨5, [eL 2 3 4 ⟨ca, cb, cc, cs, cd⟩]⟩) mixed rfl ?_
    ((refine expG_get 0 (.ref 5 5 0 1) rfl ?_ ?_ ?_ ?_ ?_); (· decide +kernel); (· decide +kernel); (· rfl); (· (intro S hS0; simp -implicitDefEqProofs only [go_sem, hS0, *])); try simp -implicitDefEqProofs only [go_sem, List.set_cons_succ, List.set_cons_zero])
    ((refine expG_get 1 (.own 3 3 0 5) rfl ?_ ?_ ?_ ?_ ?_); (· decide +kernel); (· decide +kernel); (· rfl); (· (intro S hS0; simp -implicitDefEqProofs only [go_sem, hS0, *])); try simp -implicitDefEqProofs only [go_sem, List.set_cons_succ, List.set_cons_zero])
    ((refine expG_get 2 (.ref 0 2 0 0) rfl ?_ ?_ ?_ ?_ ?_); (· decide +kernel); (· decide +kernel); (· rfl); (· (intro S hS0; simp -implicitDefEqProofs only [go_sem, hS0, *])); try simp -implicitDefEqProofs only [go_sem, List.set_cons_succ, List.set_cons_zero])
    ((refine expG_get 4 (.ref 0 2 0 0) rfl ?_ ?_ ?_ ?_ ?_); (· decide +kernel); (· decide +kernel); (· rfl); (· (intro S hS0; simp -implicitDefEqProofs only [go_sem, hS0, *])); try simp -implicitDefEqProofs only [go_sem, List.set_cons_succ, List.set_cons_zero])
    ((with_reducible refine expG_one 3 ?_ ?_); (· decide +kernel); try simp -implicitDefEqProofs only [go_sem, *])
    ((with_reducible refine pick_at hC ?_ ?_ ?_); (· omega); (· first | decide | omega); rintro k2 hk2; try simp -implicitDefEqProofs only [go_sem, *])
    have hk2' : 0 ≤ k2 ∧ k2 < 5 := hk2
    ((with_reducible refine expG_one 5 ?_ ?_); (· decide +kernel); try simp -implicitDefEqProofs only [go_sem, *])
    ((with_reducible refine at_reader (l71Page_c l _ hC (by omega)) (fun _ _ => rfl) ?_); rintro ⟨x, p2⟩ ⟨h0, h1, h2⟩; simp only at *; try simp -implicitDefEqProofs only [go_sem, *])
    (repeat' (first | ((with_reducible first | refine gon ?_ ?_ | refine gos ?_ ?_ | refine cdn ?_ ?_ | refine cds ?_ ?_ | refine gpn ?_ ?_ | refine gps ?_ ?_) <;> intro h <;> (try simp only [dt, df, gi, gt] at h) <;> try simp -implicitDefEqProofs only [go_sem, *]) | ((with_reducible refine And.intro ?_ ?_); (· first | omega | (simp only [List.length_take]; omega)); try simp -implicitDefEqProofs only [go_sem, *]) | first | ((with_reducible refine expG_one 6 ?_ ?_); (· decide +kernel); try simp -implicitDefEqProofs only [go_sem, *]) | ((with_reducible refine expG_one 7 ?_ ?_); (· decide +kernel); try simp -implicitDefEqProofs only [go_sem, *]) | ((with_reducible refine expG_end ?_ ?_); (· decide +kernel); try simp -implicitDefEqProofs only [go_sem, *])))
    refine fin_eng rfl rfl (rd_recs (by decide) (by decide) rfl rfl) (dr_mem hdr _ h0) ?_ ?_ <;> omega
  · refine cp_drawG (id := 8) 8 (fun S => getO S 5 = some ⟨5, [eL 2 3 4 ⟨ca, cb, cc, cs, cd⟩]⟩) mixed rfl ?_
    ((refine expG_get 0 (.ref 5 5 0 0) rfl ?_ ?_ ?_ ?_ ?_); (· decide +kernel); (· decide +kernel); (· rfl); (· (intro S hS0; simp -implicitDefEqProofs only [go_sem, hS0, *])); try simp -implicitDefEqProofs only [go_sem, List.set_cons_succ, List.set_cons_zero])
    ((refine expG_get 1 (.own 2 3 0 5) rfl ?_ ?_ ?_ ?_ ?_); (· decide +kernel); (· decide +kernel); (· rfl); (· (intro S hS0; simp -implicitDefEqProofs only [go_sem, hS0, *])); try simp -implicitDefEqProofs only [go_sem, List.set_cons_succ, List.set_cons_zero])
    ((refine expG_get 2 (.ref 0 2 0 0) rfl ?_ ?_ ?_ ?_ ?_); (· decide +kernel); (· decide +kernel); (· rfl); (· (intro S hS0; simp -implicitDefEqProofs only [go_sem, hS0, *])); try simp -implicitDefEqProofs only [go_sem, List.set_cons_succ, List.set_cons_zero])
    ((refine expG_get 4 (.ref 0 2 0 0) rfl ?_ ?_ ?_ ?_ ?_); (· decide +kernel); (· decide +kernel); (· rfl); (· (intro S hS0; simp -implicitDefEqProofs only [go_sem, hS0, *])); try simp -implicitDefEqProofs only [go_sem, List.set_cons_succ, List.set_cons_zero])
    ((with_reducible refine expG_one 3 ?_ ?_); (· decide +kernel); try simp -implicitDefEqProofs only [go_sem, *])
    ((with_reducible refine pick_at hC ?_ ?_ ?_); (· omega); (· first | decide | omega); rintro k2 hk2; try simp -implicitDefEqProofs only [go_sem, *])
    have hk2' : 0 ≤ k2 ∧ k2 < 5 := hk2
    ((with_reducible refine expG_one 5 ?_ ?_); (· decide +kernel); try simp -implicitDefEqProofs only [go_sem, *])
    ((with_reducible refine at_reader (l71Page_c l _ hC (by omega)) (fun _ _ => rfl) ?_); rintro ⟨x, p2⟩ ⟨h0, h1, h2⟩; simp only at *; try simp -implicitDefEqProofs only [go_sem, *])
    (repeat' (first | ((with_reducible first | refine gon ?_ ?_ | refine gos ?_ ?_ | refine cdn ?_ ?_ | refine cds ?_ ?_ | refine gpn ?_ ?_ | refine gps ?_ ?_) <;> intro h <;> (try simp only [dt, df, gi, gt] at h) <;> try simp -implicitDefEqProofs only [go_sem, *]) | ((with_reducible refine And.intro ?_ ?_); (· first | omega | (simp only [List.length_take]; omega)); try simp -implicitDefEqProofs only [go_sem, *]) | first | ((with_reducible refine expG_one 6 ?_ ?_); (· decide +kernel); try simp -implicitDefEqProofs only [go_sem, *]) | ((with_reducible refine expG_one 7 ?_ ?_); (· decide +kernel); try simp -implicitDefEqProofs only [go_sem, *]) | ((with_reducible refine expG_end ?_ ?_); (· decide +kernel); try simp -implicitDefEqProofs only [go_sem, *])))
    refine fin_eng rfl rfl (rd_recs (by decide) (by decide) rfl rfl) (dr_disk hdr _ h0) ?_ ?_ <;> omega
  all_goals (refine fin_eng rfl rfl (.rn _ _ (.same _ rfl)) (dr_log hdr (by omega)) ?_ ?_ <;> omega)
theorem l6Open_c (l : List Int) (hl : l.length < 4611686018427387904) (hb : Byt l) : AFnX Tryz.prog 19 [bts l] [] (fun l' : List Int => Cod l') (fun _ => .ref 0 2 0 0) (fun l' => [oR l' 0]) [] :=
  AFn.mono (l6Open_fn l hl hb) fun r S' mv ⟨⟨l', h1, h2, h3⟩, h4⟩ => ⟨l', h1, h2, h3, h4⟩
/-- What a drawing hands back: no object. -/
abbrev FnX (f : FuncId) (args : List AV) {X : Type} (J : X → Prop) (R : X → AV) : Prop := AFnX Tryz.prog f args [] J R (fun _ => []) []
theorem fin_drawn {r r' : AV} {S : Store} {mv : List Nat} {Q : AV → Store → List Nat → Prop} (hr : RdT [] S 0 r r') (h : Q r' [] []) : Fin 0 r S mv Q :=
  fin_drop [] [] (by simp) rfl (by decide) (fun j i h => by cases h) (fun i hi => absurd hi (Nat.not_lt_zero _)) hr h
end Go.Proofs.YtjdebcankncfaabGreat.Am
end
section
set_option linter.unusedVariables false
set_option linter.unusedSimpArgs false
set_option maxRecDepth 100000
set_option maxHeartbeats 8000000
namespace Go.Proofs.YtjdebcankncfaabGreat.Am
open Go Go.RowKit Go.Proofs
attribute [local congr] opsP_congr codeP_congr AWP_congr afterR_congr preP_congr afterPre_congr gPre_congr gOps_congr condP_congr stepE_congr
attribute [local go_sem] ty_int ty_bool ty_str ty_u8 ty_ints ty_bytes ty_page ty_pages ty_lpage ty_lpages ty_rec ty_recs ty_lrec ty_lrecs ty_eng ty_leng
attribute [local go_sem] true_and and_true beq_true' beq_false' toNat_cast Int.natCast_nonneg Bool.not_not Bool.not_true Bool.not_false decide_true decide_false Bool.or_false Bool.false_or Bool.or_true Bool.true_or Bool.and_false Bool.false_and Nat.zero_add Int.toNat_of_nonneg wrap_succ wrap_m1 wrap_nat succ_m1 cast0 succ_pos' succ_ne' succ_bne' ge_iff_le gt_iff_lt if_true if_false
attribute [local go_sem] slt_r slt_I slt_p ty_rd ty_ev ty_evs
theorem dr_small {e : Eng} (h : e.dr) : e.small := ⟨by have := h.disk; omega, by have := h.mem; omega, by have := h.log; omega, fun p hp => by have := h.dv p hp; omega, fun p hp => by have := h.mv p hp; omega⟩
theorem okI (e : Eng) (h : e.small) : Fn1 Tryz.prog 18 [eA e] (Bo (okE e)) := EngineOkI_fn lastC lastOfC recC (pagesC lastC) e h.disk h.mem h.log h.dv h.mv
theorem okS (e : Eng) (h : e.small) : Fn1 Tryz.prog 9 [eA e] (Bo (okE e)) := EngineOkS_fn e h.disk h.mem h.log
end Go.Proofs.YtjdebcankncfaabGreat.Am
end
section
set_option linter.unusedVariables false
set_option linter.unusedSimpArgs false
set_option maxRecDepth 100000
namespace Go.Proofs.YtjdebcankncfaabGreat.Am
open Go Go.RowKit Go.Proofs Go.ChangeShapes Go.WideShapes
section
variable {H : Type} {enc : TypeId × Value → H} {w : World} {μ : Nat → Nat}
theorem opens_u8 : Opens enc w μ 5 1 bD (fun n => 0 ≤ n ∧ n < 256) := by
  intro fuel cs d ps h
  cases fuel with
  | zero => simp [DataW.trod] at h
  | succ fuel =>
    unfold DataW.trod at h
    rw [Tryz.underlying5] at h
    rcases cs with _ | ⟨v, _ | ⟨u, cs⟩⟩
    · simp at h
    · cases v <;> simp only [reduceCtorEq] at h
      rename_i k n
      split at h
      · rename_i hk
        obtain ⟨rfl, hwf⟩ := hk
        refine ⟨n, rfl, ?_, fun _ => ?_⟩
        · rintro (_ | j) y hy
          · simp [bD_cells] at hy; subst hy; exact ⟨_, rfl, .prim _ rfl⟩
          · simp [bD_cells] at hy
        · have h1 : IntKind.u8.min = 0 := rfl
          have h2 : IntKind.u8.max = 255 := rfl
          simp only [Lit.wf, Bool.and_eq_true, decide_eq_true_eq] at hwf
          omega
      · cases h
    · simp at h
theorem opens_bytes : Opens enc w μ 22 1 (fun l : List Int => .sl 1 (l.map bD)) (fun l => l.length < 4611686018427387904 ∧ ∀ a ∈ l, 0 ≤ a ∧ a < 256) :=
  opens_sl opens_u8 Tryz.underlying22 (by kernel_rfl) (by decide) (Nat.le_trans (by decide) (Nat.le_of_eq (by kernel_rfl : (1 : Nat) = _))) (fun a => ⟨rfl, by simp [bD_cells]; rfl⟩)
/-- A code that is an argument. -/
theorem open_bytes {r : Reach} {b0 : Nat} {v : Value} {d : DataW H} {ps : List MemPlace} (hval : Value.okWide Tryz.prog w r b0 22 v) (hd : DataW.Trod enc Tryz.prog w 0 (fun _ => true) true 22 v d ps)
    (hw : (d.weights Tryz.prog 22).all (· ≤ reachBytes) = true) : ∃ l : List Int, l.length < 4611686018427387904 ∧ Byt l ∧ Rep okT w (fun i => i) [] (bts l) v := by
  obtain ⟨a, len, cap, rfl⟩ := okWide_slice Tryz.underlying22 hval
  obtain ⟨fuel, hf⟩ := hd
  obtain ⟨l, hl, hr, hq⟩ := opens_bytes (μ := fun i => i) _ _ _ _ hf
  obtain ⟨q1, q2⟩ := hq hw
  refine ⟨l, q1, fun k hk => q2 _ (at_mem l k hk), ?_⟩
  obtain ⟨u, hu, hR⟩ := hr 0 _ rfl
  simp [Value.cells] at hu
  subst hu
  exact .sl _ _ _ hR
end
end Go.Proofs.YtjdebcankncfaabGreat.Am
end
section
set_option linter.unusedVariables false
set_option linter.unusedSimpArgs false
set_option maxRecDepth 100000
set_option maxHeartbeats 8000000
namespace Go.Proofs.YtjdebcankncfaabGreat.Am
open Go Go.RowKit Go.Proofs
attribute [local go_sem_proc] Nat.reduceAdd Nat.reduceSub Nat.reduceMul Nat.reduceLT Nat.reduceLeDiff Nat.reduceEqDiff Int.reduceBEq Int.reduceBNe Int.reduceNeg Int.reduceSub Int.reduceLE Int.reduceLT
attribute [local go_sem_proc ↓] reduceIte
attribute [local congr] opsP_congr codeP_congr AWP_congr afterR_congr preP_congr afterPre_congr gPre_congr gOps_congr condP_congr stepE_congr
attribute [local go_sem] ty_int ty_bool ty_str ty_u8 ty_ints ty_bytes ty_page ty_pages ty_lpage ty_lpages ty_rec ty_recs ty_lrec ty_lrecs ty_eng ty_leng
attribute [local go_sem] true_and and_true beq_true' beq_false' toNat_cast Int.natCast_nonneg Bool.not_not Bool.not_true Bool.not_false decide_true decide_false Bool.or_false Bool.false_or Bool.or_true Bool.true_or Bool.and_false Bool.false_and Nat.zero_add Int.toNat_of_nonneg wrap_succ wrap_m1 wrap_nat succ_m1 cast0 succ_pos' succ_ne' succ_bne' ge_iff_le gt_iff_lt if_true if_false
attribute [local go_sem] slt_r slt_I slt_p
theorem ltInts_fn (a b : List Int) (hb : a.length < 4611686018427387904) : Fn1 Tryz.prog 15 [ints a, ints b] (Bo (sameInts a b)) := by
  refine fn1_of Tryz.func15 rfl rfl ?_
  simp -implicitDefEqProofs only [go_sem, Tryz.f15]
  (repeat' (first | ((with_reducible first | refine gon ?_ ?_ | refine gos ?_ ?_ | refine cdn ?_ ?_ | refine cds ?_ ?_ | refine gpn ?_ ?_ | refine gps ?_ ?_) <;> intro h <;> (try simp only [dt, df, gi, gt] at h) <;> try simp -implicitDefEqProofs only [go_sem, *]) | ((with_reducible refine And.intro ?_ ?_); (· first | omega | (simp only [List.length_take]; omega)); try simp -implicitDefEqProofs only [go_sem, *]) | fail))
  all_goals try ((with_reducible refine fin_pu ?_ ?_); (· (simp_all [sameInts]) <;> (first | omega | (rw [Bool.eq_iff_iff]; simp; done) | (rw [Bool.eq_iff_iff]; simp; omega) | (split <;> (first | rfl | omega | (simp_all; done))))); (· rfl))
  · have hl : a.length = b.length := by have := h; simp at this; omega
    refine cp_loop (fun i : Nat => ⟨(ints a :: ints b :: .any :: .any :: Bo false :: I (i : Int) :: .any :: .any :: .any :: .any :: .any :: .any :: .any :: .any :: .any :: .any :: .any :: .any :: .any :: .any :: .any :: .any :: .any :: .any :: .any :: .any :: []), [], []⟩) (fun i => i ≤ a.length ∧ allFrom (fun k => at' a (k : Int) == at' b (k : Int)) i a.length = sameInts a b) (fun i => a.length - i) 0 ?_ ?_ ?_
    · exact ⟨by omega, by simp [sameInts, hl]⟩
    · refine wk_tm ?_; repeat (first | exact WL.nil | (with_reducible refine WL.any _ _ _ ?_) | (with_reducible refine WL.same _ _ _ ?_) | (refine WL.eq _ _ _ _ rfl ?_))
    · rintro i ⟨hi, hg⟩
      have hbi : i < 4611686018427387904 := by omega
      simp -implicitDefEqProofs only [go_sem, true_and]
      (repeat' (first | ((with_reducible first | refine gon ?_ ?_ | refine gos ?_ ?_ | refine cdn ?_ ?_ | refine cds ?_ ?_ | refine gpn ?_ ?_ | refine gps ?_ ?_) <;> intro h <;> (try simp only [dt, df, gi, gt] at h) <;> try simp -implicitDefEqProofs only [go_sem, *]) | ((with_reducible refine And.intro ?_ ?_); (· first | omega | (simp only [List.length_take]; omega)); try simp -implicitDefEqProofs only [go_sem, *]) | ((with_reducible refine cp_draw (id := 6) 9 mixed ?_ ?_ ?_); (· decide +kernel); (· first | (simp only [List.all_cons, List.all_nil, List.length_cons, List.length_nil, Nat.reduceAdd, Nat.reduceLT, decide_true, Bool.and_true, Bool.and_self]; done) | rfl); try simp -implicitDefEqProofs only [go_sem, *])))
      all_goals first
        | ((with_reducible refine fin_pu ?_ ?_); (· (rw [← hg, allFrom_lt (by omega : i < a.length)]; clear hg; simp_all; done)); (· rfl))
        | ((with_reducible refine fin_pu ?_ ?_); (· (rw [← hg, allFrom_ge (by omega : ¬ i < a.length)]; done)); (· rfl))
        | ((with_reducible refine ⟨i + 1, ⟨by omega, ?_⟩, by omega, ?_⟩); (· (rw [← hg, allFrom_lt (by omega : i < a.length)]; clear hg; simp_all)); (· refine wk_tm ?_; repeat (first | exact WL.nil | (with_reducible refine WL.any _ _ _ ?_) | (with_reducible refine WL.same _ _ _ ?_) | (refine WL.eq _ _ _ _ rfl ?_))))
theorem ltPage_fn (p q : Pg) (hb : p.vals.length < 4611686018427387904) : Fn1 Tryz.prog 57 [pA p, pA q] (Bo (sameP p q)) := by
  refine fn1_of Tryz.func57 rfl rfl ?_
  simp -implicitDefEqProofs only [go_sem, Tryz.f57]
  (repeat' (first | ((with_reducible first | refine gon ?_ ?_ | refine gos ?_ ?_ | refine cdn ?_ ?_ | refine cds ?_ ?_ | refine gpn ?_ ?_ | refine gps ?_ ?_) <;> intro h <;> (try simp only [dt, df, gi, gt] at h) <;> try simp -implicitDefEqProofs only [go_sem, *]) | ((with_reducible refine And.intro ?_ ?_); (· first | omega | (simp only [List.length_take]; omega)); try simp -implicitDefEqProofs only [go_sem, *]) | ((with_reducible refine enter_pu (ltInts_fn p.vals q.vals hb) ?_ ?_ ?_); (· rfl); (· rfl); try simp -implicitDefEqProofs only [go_sem, *])))
  all_goals try ((with_reducible refine fin_pu ?_ ?_); (· (simp_all [sameP]) <;> (first | omega | (rw [Bool.eq_iff_iff]; simp; done) | (rw [Bool.eq_iff_iff]; simp; omega) | (split <;> (first | rfl | omega | (simp_all; done))))); (· rfl))
theorem ltPages_fn (a b : List Pg) (hb : a.length < 4611686018427387904) (hv : ∀ p ∈ a, p.vals.length < 4611686018427387904) : Fn1 Tryz.prog 17 [pgs a, pgs b] (Bo (samePs a b)) := by
  refine fn1_of Tryz.func17 rfl rfl ?_
  simp -implicitDefEqProofs only [go_sem, Tryz.f17]
  (repeat' (first | ((with_reducible first | refine gon ?_ ?_ | refine gos ?_ ?_ | refine cdn ?_ ?_ | refine cds ?_ ?_ | refine gpn ?_ ?_ | refine gps ?_ ?_) <;> intro h <;> (try simp only [dt, df, gi, gt] at h) <;> try simp -implicitDefEqProofs only [go_sem, *]) | ((with_reducible refine And.intro ?_ ?_); (· first | omega | (simp only [List.length_take]; omega)); try simp -implicitDefEqProofs only [go_sem, *]) | fail))
  all_goals try ((with_reducible refine fin_pu ?_ ?_); (· (simp_all [samePs]) <;> (first | omega | (rw [Bool.eq_iff_iff]; simp; done) | (rw [Bool.eq_iff_iff]; simp; omega) | (split <;> (first | rfl | omega | (simp_all; done))))); (· rfl))
  · have hl : a.length = b.length := by have := h; simp at this; omega
    refine cp_loop (fun i : Nat => ⟨(pgs a :: pgs b :: .any :: .any :: Bo false :: I (i : Int) :: .any :: .any :: .any :: .any :: .any :: .any :: .any :: .any :: .any :: .any :: .any :: .any :: .any :: .any :: .any :: .any :: .any :: .any :: .any :: .any :: .any :: []), [], []⟩) (fun i => i ≤ a.length ∧ allFrom (fun k => sameP (at' a (k : Int)) (at' b (k : Int))) i a.length = samePs a b) (fun i => a.length - i) 0 ?_ ?_ ?_
    · exact ⟨by omega, by simp [samePs, hl]⟩
    · refine wk_tm ?_; repeat (first | exact WL.nil | (with_reducible refine WL.any _ _ _ ?_) | (with_reducible refine WL.same _ _ _ ?_) | (refine WL.eq _ _ _ _ rfl ?_))
    · rintro i ⟨hi, hg⟩
      have hbi : i < 4611686018427387904 := by omega
      simp -implicitDefEqProofs only [go_sem, true_and]
      (repeat' (first | ((with_reducible first | refine gon ?_ ?_ | refine gos ?_ ?_ | refine cdn ?_ ?_ | refine cds ?_ ?_ | refine gpn ?_ ?_ | refine gps ?_ ?_) <;> intro h <;> (try simp only [dt, df, gi, gt] at h) <;> try simp -implicitDefEqProofs only [go_sem, *]) | ((with_reducible refine And.intro ?_ ?_); (· first | omega | (simp only [List.length_take]; omega)); try simp -implicitDefEqProofs only [go_sem, *]) | first | ((with_reducible refine cp_draw (id := 6) 10 mixed ?_ ?_ ?_); (· decide +kernel); (· first | (simp only [List.all_cons, List.all_nil, List.length_cons, List.length_nil, Nat.reduceAdd, Nat.reduceLT, decide_true, Bool.and_true, Bool.and_self]; done) | rfl); try simp -implicitDefEqProofs only [go_sem, *]) | ((with_reducible refine pre_enter _ (det_pu (ltPage_fn (at' a (i : Int)) (at' b (i : Int)) (hv _ (at_mem a i (by omega)))) ?_ ?_) ?_ ?_); (· rfl); (· rfl); (· rfl); try simp -implicitDefEqProofs only [go_sem, *])))
      all_goals first
        | ((with_reducible refine fin_pu ?_ ?_); (· (rw [← hg, allFrom_lt (by omega : i < a.length)]; clear hg; simp_all; done)); (· rfl))
        | ((with_reducible refine fin_pu ?_ ?_); (· (rw [← hg, allFrom_ge (by omega : ¬ i < a.length)]; done)); (· rfl))
        | ((with_reducible refine ⟨i + 1, ⟨by omega, ?_⟩, by omega, ?_⟩); (· (rw [← hg, allFrom_lt (by omega : i < a.length)]; clear hg; simp_all)); (· refine wk_tm ?_; repeat (first | exact WL.nil | (with_reducible refine WL.any _ _ _ ?_) | (with_reducible refine WL.same _ _ _ ?_) | (refine WL.eq _ _ _ _ rfl ?_))))
theorem ltRecs_fn (a b : List Rc) (hb : a.length < 4611686018427387904) : Fn1 Tryz.prog 30 [recs a, recs b] (Bo (sameRs a b)) := by
  refine fn1_of Tryz.func30 rfl rfl ?_
  simp -implicitDefEqProofs only [go_sem, Tryz.f30]
  (repeat' (first | ((with_reducible first | refine gon ?_ ?_ | refine gos ?_ ?_ | refine cdn ?_ ?_ | refine cds ?_ ?_ | refine gpn ?_ ?_ | refine gps ?_ ?_) <;> intro h <;> (try simp only [dt, df, gi, gt] at h) <;> try simp -implicitDefEqProofs only [go_sem, *]) | ((with_reducible refine And.intro ?_ ?_); (· first | omega | (simp only [List.length_take]; omega)); try simp -implicitDefEqProofs only [go_sem, *]) | fail))
  all_goals try ((with_reducible refine fin_pu ?_ ?_); (· (simp_all [sameRs]) <;> (first | omega | (rw [Bool.eq_iff_iff]; simp; done) | (rw [Bool.eq_iff_iff]; simp; omega) | (split <;> (first | rfl | omega | (simp_all; done))))); (· rfl))
  · have hl : a.length = b.length := by have := h; simp at this; omega
    refine cp_loop (fun i : Nat => ⟨(recs a :: recs b :: .any :: .any :: Bo false :: I (i : Int) :: .any :: .any :: .any :: .any :: .any :: .any :: .any :: .any :: .any :: .any :: .any :: .any :: .any :: .any :: .any :: .any :: .any :: .any :: .any :: .any :: []), [], []⟩) (fun i => i ≤ a.length ∧ allFrom (fun k => sameR (at' a (k : Int)) (at' b (k : Int))) i a.length = sameRs a b) (fun i => a.length - i) 0 ?_ ?_ ?_
    · exact ⟨by omega, by simp [sameRs, hl]⟩
    · refine wk_tm ?_; repeat (first | exact WL.nil | (with_reducible refine WL.any _ _ _ ?_) | (with_reducible refine WL.same _ _ _ ?_) | (refine WL.eq _ _ _ _ rfl ?_))
    · rintro i ⟨hi, hg⟩
      have hbi : i < 4611686018427387904 := by omega
      simp -implicitDefEqProofs only [go_sem, true_and]
      (repeat' (first | ((with_reducible first | refine gon ?_ ?_ | refine gos ?_ ?_ | refine cdn ?_ ?_ | refine cds ?_ ?_ | refine gpn ?_ ?_ | refine gps ?_ ?_) <;> intro h <;> (try simp only [dt, df, gi, gt] at h) <;> try simp -implicitDefEqProofs only [go_sem, *]) | ((with_reducible refine And.intro ?_ ?_); (· first | omega | (simp only [List.length_take]; omega)); try simp -implicitDefEqProofs only [go_sem, *]) | ((with_reducible refine cp_draw (id := 6) 9 mixed ?_ ?_ ?_); (· decide +kernel); (· first | (simp only [List.all_cons, List.all_nil, List.length_cons, List.length_nil, Nat.reduceAdd, Nat.reduceLT, decide_true, Bool.and_true, Bool.and_self]; done) | rfl); try simp -implicitDefEqProofs only [go_sem, *])))
      all_goals first
        | ((with_reducible refine fin_pu ?_ ?_); (· (rw [← hg, allFrom_lt (by omega : i < a.length)]; clear hg; simp_all [sameR]; done)); (· rfl))
        | ((with_reducible refine fin_pu ?_ ?_); (· (rw [← hg, allFrom_ge (by omega : ¬ i < a.length)]; done)); (· rfl))
        | ((with_reducible refine ⟨i + 1, ⟨by omega, ?_⟩, by omega, ?_⟩); (· (rw [← hg, allFrom_lt (by omega : i < a.length)]; clear hg; simp_all [sameR])); (· refine wk_tm ?_; repeat (first | exact WL.nil | (with_reducible refine WL.any _ _ _ ?_) | (with_reducible refine WL.same _ _ _ ?_) | (refine WL.eq _ _ _ _ rfl ?_))))
theorem ltEngine_fn (a b : Eng) (ha : a.small) : Fn1 Tryz.prog 8 [eA a, eA b] (Bo (sameE a b)) := by
  refine fn1_of Tryz.func8 rfl rfl ?_
  simp -implicitDefEqProofs only [go_sem, Tryz.f8]
  (repeat' (first | ((with_reducible first | refine gon ?_ ?_ | refine gos ?_ ?_ | refine cdn ?_ ?_ | refine cds ?_ ?_ | refine gpn ?_ ?_ | refine gps ?_ ?_) <;> intro h <;> (try simp only [dt, df, gi, gt] at h) <;> try simp -implicitDefEqProofs only [go_sem, *]) | ((with_reducible refine And.intro ?_ ?_); (· first | omega | (simp only [List.length_take]; omega)); try simp -implicitDefEqProofs only [go_sem, *]) | first | ((with_reducible refine enter_pu (ltPages_fn a.disk b.disk ha.disk ha.dv) ?_ ?_ ?_); (· rfl); (· rfl); try simp -implicitDefEqProofs only [go_sem, *]) | ((with_reducible refine enter_pu (ltPages_fn a.mem b.mem ha.mem ha.mv) ?_ ?_ ?_); (· rfl); (· rfl); try simp -implicitDefEqProofs only [go_sem, *]) | ((with_reducible refine enter_pu (ltRecs_fn a.log b.log ha.log) ?_ ?_ ?_); (· rfl); (· rfl); try simp -implicitDefEqProofs only [go_sem, *])))
  all_goals try ((with_reducible refine fin_pu ?_ ?_); (· (simp_all [sameE]) <;> (first | omega | (rw [Bool.eq_iff_iff]; simp; done) | (rw [Bool.eq_iff_iff]; simp; omega) | (split <;> (first | rfl | omega | (simp_all; done))))); (· rfl))
end Go.Proofs.YtjdebcankncfaabGreat.Am
end
section
set_option linter.unusedVariables false
set_option linter.unusedSimpArgs false
set_option maxRecDepth 100000
set_option maxHeartbeats 8000000
namespace Go.Proofs.YtjdebcankncfaabGreat.Am
open Go Go.RowKit Go.Proofs
attribute [local congr] opsP_congr codeP_congr AWP_congr afterR_congr preP_congr afterPre_congr gPre_congr gOps_congr condP_congr stepE_congr
attribute [local go_sem] ty_int ty_bool ty_str ty_u8 ty_ints ty_bytes ty_page ty_pages ty_lpage ty_lpages ty_rec ty_recs ty_lrec ty_lrecs ty_eng ty_leng
attribute [local go_sem] true_and and_true beq_true' beq_false' toNat_cast Int.natCast_nonneg Bool.not_not Bool.not_true Bool.not_false decide_true decide_false Bool.or_false Bool.false_or Bool.or_true Bool.true_or Bool.and_false Bool.false_and Nat.zero_add Int.toNat_of_nonneg wrap_succ wrap_m1 wrap_nat succ_m1 cast0 succ_pos' succ_ne' succ_bne' ge_iff_le gt_iff_lt if_true if_false
section
attribute [local go_sem] slt_r slt_I slt_p
def openL (l : List Rc) : List Int := if logOk l = true then openTo l 3 else []
def lockE (e : Eng) (page : Int) : Nat := if okE e = true ∧ isIn page 0 4 = true then lockFrom e.log page 0 else 0
end
section
attribute [local go_sem] slt_r slt_I slt_p ty_rd ty_ev ty_evs
theorem sameInts_iff {a b : List Int} : sameInts a b = true ↔ a = b := by
  unfold sameInts
  rw [Bool.and_eq_true, decide_eq_true_eq, allFrom_iff]
  constructor
  · rintro ⟨h1, h2⟩
    refine List.ext_getElem h1 fun i hi hj => ?_
    have := h2 i (Nat.zero_le _) hi
    simpa [at', List.getD, hi, hj] using this
  · rintro rfl
    exact ⟨rfl, fun k _ _ => by simp⟩
theorem sameP_iff {p q : Pg} : sameP p q = true ↔ p = q := by
  unfold sameP
  rw [Bool.and_eq_true, Bool.and_eq_true, sameInts_iff, beq_iff_eq, beq_iff_eq]
  obtain ⟨a, b, c⟩ := p
  obtain ⟨a', b', c'⟩ := q
  simp [and_assoc]
theorem samePs_iff {a b : List Pg} : samePs a b = true ↔ a = b := by
  unfold samePs
  rw [Bool.and_eq_true, decide_eq_true_eq, allFrom_iff]
  constructor
  · rintro ⟨h1, h2⟩
    refine List.ext_getElem h1 fun i hi hj => ?_
    have := sameP_iff.1 (h2 i (Nat.zero_le _) hi)
    simpa [at', List.getD, hi, hj] using this
  · rintro rfl
    exact ⟨rfl, fun k _ _ => sameP_refl _⟩
end
end Go.Proofs.YtjdebcankncfaabGreat.Am
end
section
set_option linter.unusedVariables false
set_option linter.unusedSimpArgs false
set_option maxRecDepth 100000
set_option maxHeartbeats 8000000
namespace Go.Proofs.YtjdebcankncfaabGreat.Am
open Go Go.RowKit Go.Proofs
attribute [local go_sem_proc] Nat.reduceAdd Nat.reduceSub Nat.reduceMul Nat.reduceLT Nat.reduceLeDiff Nat.reduceEqDiff Int.reduceBEq Int.reduceBNe Int.reduceNeg Int.reduceSub Int.reduceLE Int.reduceLT
attribute [local go_sem_proc ↓] reduceIte
attribute [local congr] opsP_congr codeP_congr AWP_congr afterR_congr preP_congr afterPre_congr gPre_congr gOps_congr condP_congr stepE_congr
attribute [local go_sem] ty_int ty_bool ty_str ty_u8 ty_ints ty_bytes ty_page ty_pages ty_lpage ty_lpages ty_rec ty_recs ty_lrec ty_lrecs ty_eng ty_leng
attribute [local go_sem] true_and and_true beq_true' beq_false' toNat_cast Int.natCast_nonneg Bool.not_not Bool.not_true Bool.not_false decide_true decide_false Bool.or_false Bool.false_or Bool.or_true Bool.true_or Bool.and_false Bool.false_and Nat.zero_add Int.toNat_of_nonneg wrap_succ wrap_m1 wrap_nat succ_m1 cast0 succ_pos' succ_ne' succ_bne' ge_iff_le gt_iff_lt if_true if_false
attribute [local go_sem] slt_r slt_I slt_p ty_rd ty_ev ty_evs
theorem LogOpenS_fn (l : List Rc) (hl : l.length < 4611686018427387904) : Fn1 Tryz.prog 66 [recs l] (ints (openL l)) := by
  have c1 := LogOk_fn l hl
  refine fn1_of Tryz.func66 rfl rfl ?_
  unfold openL
  rcases hok : logOk l with _ | _
  · rw [hok] at c1
    simp -implicitDefEqProofs only [go_sem, Tryz.f66]
    (repeat' (first | ((with_reducible first | refine gon ?_ ?_ | refine gos ?_ ?_ | refine cdn ?_ ?_ | refine cds ?_ ?_ | refine gpn ?_ ?_ | refine gps ?_ ?_) <;> intro h <;> (try simp only [dt, df, gi, gt] at h) <;> try simp -implicitDefEqProofs only [go_sem, *]) | ((with_reducible refine And.intro ?_ ?_); (· first | omega | (simp only [List.length_take]; omega)); try simp -implicitDefEqProofs only [go_sem, *]) | ((with_reducible refine enter_pu (c1) ?_ ?_ ?_); (· rfl); (· rfl); try simp -implicitDefEqProofs only [go_sem, *])))
    exact fin_1 (argT0 (arg0_I (l := []) rfl rfl))
  · rw [hok] at c1
    rw [if_pos rfl]
    simp -implicitDefEqProofs only [go_sem, Tryz.f66]
    (repeat' (first | ((with_reducible first | refine gon ?_ ?_ | refine gos ?_ ?_ | refine cdn ?_ ?_ | refine cds ?_ ?_ | refine gpn ?_ ?_ | refine gps ?_ ?_) <;> intro h <;> (try simp only [dt, df, gi, gt] at h) <;> try simp -implicitDefEqProofs only [go_sem, *]) | ((with_reducible refine And.intro ?_ ?_); (· first | omega | (simp only [List.length_take]; omega)); try simp -implicitDefEqProofs only [go_sem, *]) | ((with_reducible refine enter_pu (c1) ?_ ?_ ?_); (· rfl); (· rfl); try simp -implicitDefEqProofs only [go_sem, *])))
    clear c1
    refine cp_loop (fun t : Nat => ⟨(recs l :: .any :: nilS :: .own 0 1 0 (openTo l t).length :: I (((t + 1 : Nat) : Int)) :: .any :: .any :: .any :: .any :: .any :: .any :: .any :: .any :: .any :: .any :: .any :: .any :: .any :: .any :: .any :: .any :: .any :: .any :: []), [some ⟨1, (openTo l t).map I⟩], [0]⟩) (fun t => t ≤ 3) (fun t => 3 - t) 0 ?_ ?_ ?_
    · simp
    · refine WkN.trans (WkN.trans (wk_tm ?_) (wk_trunc (S := [some ⟨1, _⟩]) (Nat.le_refl _) rfl (by first | rfl | (simp only [sltB, List.all_cons, List.all_nil, slt_p, slt_I, slt_r, Bool.and_true]; done) | (simp only [sltB, List.all_cons, List.all_nil, slt_p, slt_I, slt_r, Bool.and_true]; rfl)))) (wk_mv (by simp)); repeat (first | exact WL.nil | (with_reducible refine WL.any _ _ _ ?_) | (with_reducible refine WL.same _ _ _ ?_) | (refine WL.eq _ _ _ _ rfl ?_))
    · rintro t hi
      have hb : t + 1 < 4611686018427387904 := by omega
      have hlen := openTo_len l t
      have c3 := l3Last_fn l ((t + 1 : Nat) : Int) hl
      simp -implicitDefEqProofs only [go_sem, true_and]
      (repeat' (first | ((with_reducible first | refine gon ?_ ?_ | refine gos ?_ ?_ | refine cdn ?_ ?_ | refine cds ?_ ?_ | refine gpn ?_ ?_ | refine gps ?_ ?_) <;> intro h <;> (try simp only [dt, df, gi, gt] at h) <;> try simp -implicitDefEqProofs only [go_sem, *]) | ((with_reducible refine And.intro ?_ ?_); (· first | omega | (simp only [List.length_take]; omega)); try simp -implicitDefEqProofs only [go_sem, *]) | ((with_reducible refine enter_pu (c3) ?_ ?_ ?_); (· rfl); (· rfl); try simp -implicitDefEqProofs only [go_sem, *])))
      · have e : openTo l (t + 1) = openTo l t ++ [((t + 1 : Nat) : Int)] := if_neg (by omega)
        refine ⟨t + 1, by omega, by omega, ?_⟩
        simp only [e, List.length_append, List.length_cons, List.length_nil]
        refine WkN.trans (WkN.trans (wk_tm ?_) (wk_trunc (S := [some ⟨1, _⟩]) (Nat.le_refl _) rfl (by first | rfl | (simp only [sltB, List.all_cons, List.all_nil, slt_p, slt_I, slt_r, Bool.and_true]; done) | (simp only [sltB, List.all_cons, List.all_nil, slt_p, slt_I, slt_r, Bool.and_true]; rfl)))) (wk_mv (by simp)); repeat (first | exact WL.nil | (with_reducible refine WL.any _ _ _ ?_) | (with_reducible refine WL.same _ _ _ ?_) | (refine WL.eq _ _ _ _ rfl ?_))
      · have e : openTo l (t + 1) = openTo l t := if_pos (by omega)
        refine ⟨t + 1, by omega, by omega, ?_⟩
        simp only [e]
        refine wk_tm ?_; repeat (first | exact WL.nil | (with_reducible refine WL.any _ _ _ ?_) | (with_reducible refine WL.same _ _ _ ?_) | (refine WL.eq _ _ _ _ rfl ?_))
      · have e : t = 3 := by omega
        subst e
        exact fin_1 (argT0 (arg0_I rfl rfl))
theorem EngineLockS_fn (e : Eng) (page : Int) (h : e.small) : Fn1 Tryz.prog 22 [eA e, I page] (I (lockE e page)) := by
  have c1 := okS e h
  have c2 := l6In_fn page 0 4
  refine fn1_of Tryz.func22 rfl rfl ?_
  unfold lockE
  rcases hok : okE e with _ | _
  · rw [if_neg (by simp)]
    rw [hok] at c1
    simp -implicitDefEqProofs only [go_sem, Tryz.f22]
    (repeat' (first | ((with_reducible first | refine gon ?_ ?_ | refine gos ?_ ?_ | refine cdn ?_ ?_ | refine cds ?_ ?_ | refine gpn ?_ ?_ | refine gps ?_ ?_) <;> intro h <;> (try simp only [dt, df, gi, gt] at h) <;> try simp -implicitDefEqProofs only [go_sem, *]) | ((with_reducible refine And.intro ?_ ?_); (· first | omega | (simp only [List.length_take]; omega)); try simp -implicitDefEqProofs only [go_sem, *]) | first | ((with_reducible refine enter_pu (c1) ?_ ?_ ?_); (· rfl); (· rfl); try simp -implicitDefEqProofs only [go_sem, *]) | ((with_reducible refine enter_pu (c2) ?_ ?_ ?_); (· rfl); (· rfl); try simp -implicitDefEqProofs only [go_sem, *])))
    exact fin_pu rfl rfl
  rw [hok] at c1
  rcases hin : isIn page 0 4 with _ | _
  · rw [if_neg (by simp)]
    rw [hin] at c2
    simp -implicitDefEqProofs only [go_sem, Tryz.f22]
    (repeat' (first | ((with_reducible first | refine gon ?_ ?_ | refine gos ?_ ?_ | refine cdn ?_ ?_ | refine cds ?_ ?_ | refine gpn ?_ ?_ | refine gps ?_ ?_) <;> intro h <;> (try simp only [dt, df, gi, gt] at h) <;> try simp -implicitDefEqProofs only [go_sem, *]) | ((with_reducible refine And.intro ?_ ?_); (· first | omega | (simp only [List.length_take]; omega)); try simp -implicitDefEqProofs only [go_sem, *]) | first | ((with_reducible refine enter_pu (c1) ?_ ?_ ?_); (· rfl); (· rfl); try simp -implicitDefEqProofs only [go_sem, *]) | ((with_reducible refine enter_pu (c2) ?_ ?_ ?_); (· rfl); (· rfl); try simp -implicitDefEqProofs only [go_sem, *])))
    exact fin_pu rfl rfl
  rw [hin] at c2
  rw [if_pos ⟨rfl, rfl⟩]
  have c3 := l11Lock_fn e page (inv_of_ok hok).wf
  simp -implicitDefEqProofs only [go_sem, Tryz.f22]
  (repeat' (first | ((with_reducible first | refine gon ?_ ?_ | refine gos ?_ ?_ | refine cdn ?_ ?_ | refine cds ?_ ?_ | refine gpn ?_ ?_ | refine gps ?_ ?_) <;> intro h <;> (try simp only [dt, df, gi, gt] at h) <;> try simp -implicitDefEqProofs only [go_sem, *]) | ((with_reducible refine And.intro ?_ ?_); (· first | omega | (simp only [List.length_take]; omega)); try simp -implicitDefEqProofs only [go_sem, *]) | first | ((with_reducible refine enter_pu (c1) ?_ ?_ ?_); (· rfl); (· rfl); try simp -implicitDefEqProofs only [go_sem, *]) | ((with_reducible refine enter_pu (c2) ?_ ?_ ?_); (· rfl); (· rfl); try simp -implicitDefEqProofs only [go_sem, *]) | ((with_reducible refine enter_pu (c3) ?_ ?_ ?_); (· rfl); (· rfl); try simp -implicitDefEqProofs only [go_sem, *])))
  exact fin_pu rfl rfl
theorem fin_up {l : List Int} {T : Store} {p p' : Nat} {e : Eng} (hd : e.dr) (q1 : p ≤ p') (q2 : p' ≤ p + 12000) :
    Fin 1 (eA e) (oR l p' :: T) [] (fun r S' mv => ∃ y : Eng × Nat, (y.1.dr ∧ p ≤ y.2 ∧ y.2 ≤ p + 12000) ∧ r = eA y.1 ∧ S' = [oR l y.2] ∧ mv = []) :=
  fin_drop [0] [] (by simp) rfl (by decide) (keep1 (ob := ⟨2, [.agg [bts l, I (p' : Int)]]⟩) rfl (a2_1 rfl)) (hdR (o := ⟨2, [.agg [bts l, I (p' : Int)]]⟩) rfl (by simp) rfl rfl)
    (rd_same rfl) ⟨(e, p'), ⟨hd, q1, q2⟩, rfl, rfl, rfl⟩
theorem l72Up_c (l : List Int) (p : Nat) (hC : Cod l) (hp : p < 500000) : AFnX Tryz.prog 20 [.ref 0 2 0 0] [oR l p] (fun q : Eng × Nat => q.1.dr ∧ p ≤ q.2 ∧ q.2 ≤ p + 12000) (fun q => eA q.1) (fun q => [oR l q.2]) [] := by
  refine afnx_of Tryz.func20 rfl rfl ?_
  simp -implicitDefEqProofs only [go_sem, Tryz.f20]
  (repeat' (first | ((with_reducible first | refine gon ?_ ?_ | refine gos ?_ ?_ | refine cdn ?_ ?_ | refine cds ?_ ?_ | refine gpn ?_ ?_ | refine gps ?_ ?_) <;> intro h <;> (try simp only [dt, df, gi, gt] at h) <;> try simp -implicitDefEqProofs only [go_sem, *]) | ((with_reducible refine And.intro ?_ ?_); (· first | omega | (simp only [List.length_take]; omega)); try simp -implicitDefEqProofs only [go_sem, *]) | ((with_reducible refine at_reader (l72Engine_c l p hC (by omega)) (fun _ _ => rfl) ?_); rintro ⟨e, p2⟩ ⟨h0, h1, h2⟩; simp only at *; try simp -implicitDefEqProofs only [go_sem, *])))
  refine cp_loop (fun q : Nat × Nat × Eng => ⟨(.ref 0 2 0 0 :: .any :: .ref 1 5 0 0 :: .ref 2 5 0 0 :: I (q.1 : Int) :: .any :: .any :: .any :: .any :: .any :: .any :: .any :: .any :: .any :: .any :: .any :: .any :: .any :: .any :: .any :: .any :: .any :: .any :: .any :: .any :: .any :: .any :: .any :: .any :: .any :: []), [oR l q.2.1, some ⟨5, [.agg [.prim (.slice none 0 0), .prim (.slice none 0 0), .prim (.slice none 0 0), I 0, Bo false]]⟩, some ⟨5, [eA q.2.2]⟩], []⟩) (fun q => q.1 ≤ 5 ∧ q.2.2.dr ∧ p ≤ q.2.1 ∧ q.2.1 ≤ p + 1800 + 1801 * q.1) (fun q => 5 - q.1) (0, p2, e) ?_ ?_ ?_
  · exact ⟨by simp only; omega, h0, by simp only; omega, by simp only; omega⟩
  · refine wk_tm ?_; repeat (first | exact WL.nil | (with_reducible refine WL.any _ _ _ ?_) | (with_reducible refine WL.same _ _ _ ?_) | (refine WL.eq _ _ _ _ rfl ?_))
  · rintro ⟨i, p', e'⟩ ⟨hi, hdr, hp1, hp2⟩
    simp only at hi hdr hp1 hp2
    clear h0 h1 h2
    have hib : i < 4611686018427387904 := by omega
    obtain ⟨ea, eb, ec, es, ed⟩ := e'
    have c1 := LogOpenS_fn ec (dr_small hdr).log
    simp only
    by_cases hil : i < 5
    · have hl1 : (i : Int) < 5 := by omega
      rcases ed with _ | _
      all_goals
       simp -implicitDefEqProofs only [go_sem, hl1, hib]
       (repeat' (first | ((with_reducible first | refine gon ?_ ?_ | refine gos ?_ ?_ | refine cdn ?_ ?_ | refine cds ?_ ?_ | refine gpn ?_ ?_ | refine gps ?_ ?_) <;> intro h <;> (try simp only [dt, df, gi, gt] at h) <;> try simp -implicitDefEqProofs only [go_sem, *]) | ((with_reducible refine And.intro ?_ ?_); (· first | omega | (simp only [List.length_take]; omega)); try simp -implicitDefEqProofs only [go_sem, *]) | first | ((with_reducible refine pick_at hC ?_ ?_ ?_); (· omega); (· first | decide | omega); rintro k hk; try simp -implicitDefEqProofs only [go_sem, *]) | ((with_reducible refine enter_pu (c1) ?_ ?_ ?_); (· rfl); (· rfl); try simp -implicitDefEqProofs only [go_sem, *]) | ((with_reducible refine at_reader (l72Engine_c l (p' + 1) hC (by omega)) (fun _ _ => rfl) ?_); rintro ⟨e2, p3⟩ ⟨h0, h1, h2⟩; simp only at *; try simp -implicitDefEqProofs only [go_sem, *])))
       all_goals first
        | exact fin_up hdr (by omega) (by omega)
        | (refine ⟨(i + 1, p3, e2), ⟨by simp only; omega, h0, by simp only; omega, by simp only; omega⟩, by simp only; omega, ?_⟩; refine wk_tm ?_; repeat (first | exact WL.nil | (with_reducible refine WL.any _ _ _ ?_) | (with_reducible refine WL.same _ _ _ ?_) | (refine WL.eq _ _ _ _ rfl ?_)))
    · have hl1 : ¬ (i : Int) < 5 := by omega
      simp -implicitDefEqProofs only [go_sem, hl1]
      (repeat' (first | ((with_reducible first | refine gon ?_ ?_ | refine gos ?_ ?_ | refine cdn ?_ ?_ | refine cds ?_ ?_ | refine gpn ?_ ?_ | refine gps ?_ ?_) <;> intro h <;> (try simp only [dt, df, gi, gt] at h) <;> try simp -implicitDefEqProofs only [go_sem, *]) | ((with_reducible refine And.intro ?_ ?_); (· first | omega | (simp only [List.length_take]; omega)); try simp -implicitDefEqProofs only [go_sem, *]) | fail))
      exact fin_up hdr (by omega) (by omega)
end Go.Proofs.YtjdebcankncfaabGreat.Am
end
section
set_option linter.unusedVariables false
set_option linter.unusedSimpArgs false
set_option maxRecDepth 100000
set_option maxHeartbeats 8000000
namespace Go.Proofs.YtjdebcankncfaabGreat.Am
open Go Go.RowKit Go.Proofs
attribute [local congr] opsP_congr codeP_congr AWP_congr afterR_congr preP_congr afterPre_congr gPre_congr gOps_congr condP_congr stepE_congr
attribute [local go_sem] ty_int ty_bool ty_str ty_u8 ty_ints ty_bytes ty_page ty_pages ty_lpage ty_lpages ty_rec ty_recs ty_lrec ty_lrecs ty_eng ty_leng
attribute [local go_sem] true_and and_true beq_true' beq_false' toNat_cast Int.natCast_nonneg Bool.not_not Bool.not_true Bool.not_false decide_true decide_false Bool.or_false Bool.false_or Bool.or_true Bool.true_or Bool.and_false Bool.false_and Nat.zero_add Int.toNat_of_nonneg wrap_succ wrap_m1 wrap_nat succ_m1 cast0 succ_pos' succ_ne' succ_bne' ge_iff_le gt_iff_lt if_true if_false
section
attribute [local go_sem] slt_r slt_I slt_p ty_rd ty_ev ty_evs
end
section
attribute [local go_sem] slt_r slt_I slt_p ty_rd ty_ev ty_evs
end
end Go.Proofs.YtjdebcankncfaabGreat.Am
end
section
set_option linter.unusedVariables false
set_option linter.unusedSimpArgs false
set_option maxRecDepth 100000
set_option maxHeartbeats 8000000
namespace Go.Proofs.YtjdebcankncfaabGreat.Am
open Go Go.RowKit Go.Proofs
attribute [local go_sem_proc] Nat.reduceAdd Nat.reduceSub Nat.reduceMul Nat.reduceLT Nat.reduceLeDiff Nat.reduceEqDiff Int.reduceBEq Int.reduceBNe Int.reduceNeg Int.reduceSub Int.reduceLE Int.reduceLT
attribute [local go_sem_proc ↓] reduceIte
attribute [local congr] opsP_congr codeP_congr AWP_congr afterR_congr preP_congr afterPre_congr gPre_congr gOps_congr condP_congr stepE_congr
attribute [local go_sem] ty_int ty_bool ty_str ty_u8 ty_ints ty_bytes ty_page ty_pages ty_lpage ty_lpages ty_rec ty_recs ty_lrec ty_lrecs ty_eng ty_leng
attribute [local go_sem] true_and and_true beq_true' beq_false' toNat_cast Int.natCast_nonneg Bool.not_not Bool.not_true Bool.not_false decide_true decide_false Bool.or_false Bool.false_or Bool.or_true Bool.true_or Bool.and_false Bool.false_and Nat.zero_add Int.toNat_of_nonneg wrap_succ wrap_m1 wrap_nat succ_m1 cast0 succ_pos' succ_ne' succ_bne' ge_iff_le gt_iff_lt if_true if_false
attribute [local go_sem] slt_r slt_I slt_p ty_rd ty_ev ty_evs
/-- A function of an empty slice: for every value that an empty slice has. -/
theorem fn_empty {P : Program} {f : FuncId} {z : Nat} {R : AV → Store → Prop} (h : ∀ A c, Fn P f [.prim (.slice A 0 c)] R) : Fn P f [.sl z []] R := by
  refine ⟨(h none 0).1, fun ok μ w vs hok rs hl hr => ?_⟩
  have h0 := hr 0 (.sl z []) rfl
  obtain ⟨A, c, hv⟩ : ∃ A c, vs.getD 0 undef = .slice A 0 c := by
    generalize vs.getD 0 undef = v at h0
    cases h0 with
    | sl _ _ v hD =>
      cases hD with
      | sl _ _ n A c ad f hn hc hA hz0 hz h1 h2 =>
        simp only [List.length_nil] at hn
        subst hn
        exact ⟨A, c, rfl⟩
  refine (h A c).2 ok μ w vs hok rs hl fun j x hj => ?_
  rcases j with _ | j
  · cases hj
    rw [hv]
    exact .prim _ rfl
  · cases hj
/-- A nil slice that is handed back, as a slice of an object of its own. -/
theorem fin_nil {z : Nat} (hz : 0 < z) {mv : List Nat} {R : AV → Store → Prop} (h : R (.own 0 z 0 0) [some ⟨z, []⟩]) : Fin 0 (.prim (.slice none 0 0)) [] mv (fun r S' mv => R r S' ∧ mv = []) := by
  have hone : ∀ (i : Nat) (o : AObj), ([some ⟨z, []⟩] : Store)[i]? = some (some o) → o = ⟨z, []⟩ := by
    intro i o hi
    rcases i with _ | i
    · cases hi; rfl
    · cases hi
  refine ⟨.own 0 z 0 0, [some ⟨z, []⟩], [], ⟨h, rfl⟩, fun ok w0 μ0 S0 μ a w v tm h0 hr hv => ?_⟩
  have hS0 : S0 = [] := List.eq_nil_of_length_eq_zero h0
  subst hS0
  refine ⟨μ, ⟨fun i o hi hne => ?_, fun i o hi => ?_, fun i j oi oj hi hj hni hnj e => ?_⟩, ?_, fun b _ hl => ?_, by simp, fun i hi => by simp at hi⟩
  · rw [hone i o hi] at hne
    exact absurd rfl hne
  · rw [hone i o hi]
    exact ⟨hz, fun x hx => by simp at hx⟩
  · rw [hone i oi hi] at hni
    exact absurd rfl hni
  · cases hv
    exact .own0 0 z 0 none (by simp)
  · obtain ⟨i, o, hi, hne, _⟩ := hl
    rw [hone i o hi] at hne
    exact absurd rfl hne
theorem CloneR_own (l : List Rc) (hb : l.length < 1000000) : Fn Tryz.prog 110 [recs l] (fun r S => r = .own 0 8 0 l.length ∧ S = [oL l]) := by
  rcases l with _ | ⟨x, l⟩
  · refine fn_empty fun A c => ?_
    refine fn_of Tryz.func110 rfl rfl ?_
    rcases A with _ | A
    · simp -implicitDefEqProofs only [go_sem, Tryz.f110, Option.isNone_none]
      exact fin_nil (by decide) ⟨rfl, rfl⟩
    · simp -implicitDefEqProofs only [go_sem, Tryz.f110, Option.isNone_some]
      (repeat' (first | ((with_reducible first | refine gon ?_ ?_ | refine gos ?_ ?_ | refine cdn ?_ ?_ | refine cds ?_ ?_ | refine gpn ?_ ?_ | refine gps ?_ ?_) <;> intro h <;> (try simp only [dt, df, gi, gt] at h) <;> try simp -implicitDefEqProofs only [go_sem, *]) | ((with_reducible refine And.intro ?_ ?_); (· first | omega | (simp only [List.length_take]; omega)); try simp -implicitDefEqProofs only [go_sem, *]) | fail))
      exact fin_keep [0] (by simp) rfl (keep1 (ob := ⟨8, []⟩) rfl .nil) (rt_own _ rfl) ⟨rfl, rfl⟩
  · have h0 : 0 < (x :: l).length := by simp
    generalize x :: l = l at h0 hb
    refine fn_of Tryz.func110 rfl rfl ?_
    simp -implicitDefEqProofs only [go_sem, Tryz.f110]
    (repeat' (first | ((with_reducible first | refine gon ?_ ?_ | refine gos ?_ ?_ | refine cdn ?_ ?_ | refine cds ?_ ?_ | refine gpn ?_ ?_ | refine gps ?_ ?_) <;> intro h <;> (try simp only [dt, df, gi, gt] at h) <;> try simp -implicitDefEqProofs only [go_sem, *]) | ((with_reducible refine And.intro ?_ ?_); (· first | omega | (simp only [List.length_take]; omega)); try simp -implicitDefEqProofs only [go_sem, *]) | fail))
    exact fin_keep [0] (by simp) rfl (keep1 rfl (a2_r _ _)) (rt_own _ rfl) ⟨rfl, rfl⟩
def zeroE : Eng := ⟨[], [], [], 0, false⟩
theorem rd_ez {S : Store} {b : Bool} : RdT [] S 0 (.tup [.agg [.prim (.slice none 0 0), .prim (.slice none 0 0), .prim (.slice none 0 0), I 0, Bo false], Bo b]) (.tup [eA zeroE, Bo b]) :=
  .tup _ _ (.cons _ _ _ _ (.agg _ _ (.cons _ _ _ _ (.nil 3 (by decide)) (.cons _ _ _ _ (.nil 3 (by decide)) (.cons _ _ _ _ (.nil 8 (by decide)) (.cons _ _ _ _ (.rn _ _ (.same _ rfl)) (.cons _ _ _ _ (.rn _ _ (.same _ rfl)) .nil)))))) (.cons _ _ _ _ (.of _ _ (.rn _ _ (.same _ rfl))) .nil))
theorem rd_oX {S : Store} {i j : Nat} {ea eb : List Pg} {ec : List Rc} {es : Int} {ed b : Bool} (h1 : getO S i = some ⟨3, ea.map pA⟩) (h2 : getO S j = some ⟨3, eb.map pA⟩) (ha : ea.length = 5) (hb : eb.length = 5) : RdT [] S 0 (.tup [.agg [.own i 3 0 5, .own j 3 0 5, recs ec, I es, Bo ed], Bo b]) (.tup [eA ⟨ea, eb, ec, es, ed⟩, Bo b]) :=
  .tup _ _ (.cons _ _ _ _ (.agg _ _ (.cons _ _ _ _ (rd_pgs (Nat.zero_le _) (by simp) h1 ha) (.cons _ _ _ _ (rd_pgs (Nat.zero_le _) (by simp) h2 hb) (.cons _ _ _ _ (.rn _ _ (.same _ rfl)) (.cons _ _ _ _ (.rn _ _ (.same _ rfl)) (.cons _ _ _ _ (.rn _ _ (.same _ rfl)) .nil)))))) (.cons _ _ _ _ (.of _ _ (.rn _ _ (.same _ rfl))) .nil))
end Go.Proofs.YtjdebcankncfaabGreat.Am
end
section
set_option linter.unusedVariables false
set_option linter.unusedSimpArgs false
set_option maxRecDepth 100000
set_option maxHeartbeats 8000000
namespace Go.Proofs.YtjdebcankncfaabGreat.Am
open Go Go.RowKit Go.Proofs
attribute [local congr] opsP_congr codeP_congr AWP_congr afterR_congr preP_congr afterPre_congr gPre_congr gOps_congr condP_congr stepE_congr
attribute [local go_sem] ty_int ty_bool ty_str ty_u8 ty_ints ty_bytes ty_page ty_pages ty_lpage ty_lpages ty_rec ty_recs ty_lrec ty_lrecs ty_eng ty_leng
attribute [local go_sem] true_and and_true beq_true' beq_false' toNat_cast Int.natCast_nonneg Bool.not_not Bool.not_true Bool.not_false decide_true decide_false Bool.or_false Bool.false_or Bool.or_true Bool.true_or Bool.and_false Bool.false_and Nat.zero_add Int.toNat_of_nonneg wrap_succ wrap_m1 wrap_nat succ_m1 cast0 succ_pos' succ_ne' succ_bne' ge_iff_le gt_iff_lt if_true if_false
section
attribute [local go_sem] slt_r slt_I slt_p ty_rd ty_ev ty_evs
theorem zeroE_small : zeroE.small := ⟨by decide, by decide, by decide, fun p hp => absurd hp List.not_mem_nil, fun p hp => absurd hp List.not_mem_nil⟩
theorem ltSame (e : Eng) (h : e.small) : Fn1 Tryz.prog 8 [eA e, eA e] (Bo true) := by
  have := ltEngine_fn e e h
  rwa [sameE_refl] at this
end
section
attribute [local go_sem] slt_r slt_I slt_p ty_rd ty_ev ty_evs
end
section
attribute [local go_sem] slt_r slt_I slt_p ty_rd ty_ev ty_evs
/-- Pages that undoing takes alike: both are fit, and their owners are the same. -/
structure Alike (q q' : List Pg) : Prop where
  l1 : q.length = 5
  l2 : q'.length = 5
  ok1 : ∀ k : Nat, k < 5 → (at' q (k : Int)).ok = true
  ok2 : ∀ k : Nat, k < 5 → (at' q' (k : Int)).ok = true
  own : ∀ k : Nat, k < 5 → (at' q (k : Int)).owner = (at' q' (k : Int)).owner
theorem good_iff {p : Pg} (h : p.vals.length = 3) : p.ok = true ↔ (0 ≤ p.lsn ∧ p.lsn ≤ 150) ∧ (0 ≤ p.owner ∧ p.owner ≤ 3) ∧ ∀ k : Nat, k < 3 → (0 ≤ at' p.vals (k : Int) ∧ at' p.vals (k : Int) ≤ 9) ∧ (p.owner ≠ 0 ∨ at' p.vals (k : Int) = 0) := by
  unfold Pg.ok isIn
  simp only [Bool.and_eq_true, decide_eq_true_eq, allFrom_iff, h]
  unfold Pg.good isIn
  simp only [Bool.and_eq_true, Bool.or_eq_true, decide_eq_true_eq, bne_iff_ne, beq_iff_eq]
  constructor
  · rintro ⟨⟨⟨a, b⟩, -⟩, c⟩
    exact ⟨a, b, fun k hk => c k (Nat.zero_le _) hk⟩
  · rintro ⟨a, b, c⟩
    exact ⟨⟨⟨a, b⟩, trivial⟩, fun k _ hk => c k hk⟩
theorem mem_own {e : Eng} (h : okE e = true) (hd : e.down = false) {p : Nat} (hp : p < 5) : (at' e.mem (p : Int)).owner = (at' e.redo (p : Int)).owner := by
  have ho := okE_iff.1 h
  obtain ⟨_, h2, _⟩ := pgB_iff.1 (ho.pg p hp)
  rw [if_neg (by rw [hd]; decide)] at h2
  unfold memB at h2
  split at h2
  · simp only [Bool.and_eq_true, beq_iff_eq] at h2
    exact h2.1
  · rw [sameP_iff.1 h2]
end
end Go.Proofs.YtjdebcankncfaabGreat.Am
end
section
set_option linter.unusedVariables false
set_option linter.unusedSimpArgs false
set_option maxRecDepth 100000
set_option maxHeartbeats 8000000
namespace Go.Proofs.YtjdebcankncfaabGreat.Am
open Go Go.RowKit Go.Proofs
attribute [local go_sem_proc] Nat.reduceAdd Nat.reduceSub Nat.reduceMul Nat.reduceLT Nat.reduceLeDiff Nat.reduceEqDiff Int.reduceBEq Int.reduceBNe Int.reduceNeg Int.reduceSub Int.reduceLE Int.reduceLT
attribute [local go_sem_proc ↓] reduceIte
attribute [local congr] opsP_congr codeP_congr AWP_congr afterR_congr preP_congr afterPre_congr gPre_congr gOps_congr condP_congr stepE_congr
attribute [local go_sem] ty_int ty_bool ty_str ty_u8 ty_ints ty_bytes ty_page ty_pages ty_lpage ty_lpages ty_rec ty_recs ty_lrec ty_lrecs ty_eng ty_leng
attribute [local go_sem] true_and and_true beq_true' beq_false' toNat_cast Int.natCast_nonneg Bool.not_not Bool.not_true Bool.not_false decide_true decide_false Bool.or_false Bool.false_or Bool.or_true Bool.true_or Bool.and_false Bool.false_and Nat.zero_add Int.toNat_of_nonneg wrap_succ wrap_m1 wrap_nat succ_m1 cast0 succ_pos' succ_ne' succ_bne' ge_iff_le gt_iff_lt if_true if_false
attribute [local go_sem] slt_r slt_I slt_p ty_rd ty_ev ty_evs
theorem ltBut_fn (a b : List Pg) (page : Int) (ha : a.length < 4611686018427387904) (hab : a.length = b.length) (hv : ∀ p ∈ a, p.vals.length < 4611686018427387904) (h : ∀ k : Nat, k < a.length → (k : Int) ≠ page → at' a (k : Int) = at' b (k : Int)) : Fn1 Tryz.prog 16 [pgs a, pgs b, I page] (Bo true) := by
  have hl0 : ((a.length : Int) != (b.length : Int)) = false := by rw [hab]; simp
  refine fn1_of Tryz.func16 rfl rfl ?_
  simp -implicitDefEqProofs only [go_sem, Tryz.f16, hl0]
  clear hl0
  refine cp_loop (fun i : Nat => ⟨(pgs a :: pgs b :: I page :: .any :: .any :: .any :: Bo false :: I (i : Int) :: .any :: .any :: .any :: .any :: .any :: .any :: .any :: .any :: .any :: .any :: .any :: .any :: .any :: .any :: .any :: .any :: .any :: .any :: .any :: .any :: .any :: .any :: .any :: .any :: .any :: .any :: []), [], []⟩) (fun i => i ≤ a.length) (fun i => a.length - i) 0 ?_ ?_ ?_
  · exact Nat.zero_le _
  · refine wk_tm ?_; repeat (first | exact WL.nil | (with_reducible refine WL.any _ _ _ ?_) | (with_reducible refine WL.same _ _ _ ?_) | (refine WL.eq _ _ _ _ rfl ?_))
  · rintro i hi
    have hb : i < 4611686018427387904 := by omega
    by_cases hil : i < a.length
    · have hil' : (i : Int) < (a.length : Int) := by omega
      have hib : i < b.length := by omega
      rcases hp : ((i : Int) != page) with _ | _
      · simp -implicitDefEqProofs only [go_sem, hil']
        (repeat' (first | ((with_reducible first | refine gon ?_ ?_ | refine gos ?_ ?_ | refine cdn ?_ ?_ | refine cds ?_ ?_ | refine gpn ?_ ?_ | refine gps ?_ ?_) <;> intro h <;> (try simp only [dt, df, gi, gt] at h) <;> try simp -implicitDefEqProofs only [go_sem, *]) | ((with_reducible refine And.intro ?_ ?_); (· first | omega | (simp only [List.length_take]; omega)); try simp -implicitDefEqProofs only [go_sem, *]) | ((with_reducible refine cp_draw (id := 6) 15 mixed ?_ ?_ ?_); (· decide +kernel); (· first | (simp only [List.all_cons, List.all_nil, List.length_cons, List.length_nil, Nat.reduceAdd, Nat.reduceLT, decide_true, Bool.and_true, Bool.and_self]; done) | rfl); try simp -implicitDefEqProofs only [go_sem, *])))
        exact ⟨i + 1, by omega, by omega, by refine wk_tm ?_; repeat (first | exact WL.nil | (with_reducible refine WL.any _ _ _ ?_) | (with_reducible refine WL.same _ _ _ ?_) | (refine WL.eq _ _ _ _ rfl ?_))⟩
      · have e := h i hil (by simpa using hp)
        have c1 := ltPage_fn (at' b (i : Int)) (at' b (i : Int)) (by rw [← e]; exact hv _ (at_mem a i hil))
        rw [sameP_refl] at c1
        clear hab
        simp -implicitDefEqProofs only [go_sem, hil']
        (repeat' (first | ((with_reducible first | refine gon ?_ ?_ | refine gos ?_ ?_ | refine cdn ?_ ?_ | refine cds ?_ ?_ | refine gpn ?_ ?_ | refine gps ?_ ?_) <;> intro h <;> (try simp only [dt, df, gi, gt] at h) <;> try simp -implicitDefEqProofs only [go_sem, *]) | ((with_reducible refine And.intro ?_ ?_); (· first | omega | (simp only [List.length_take]; omega)); try simp -implicitDefEqProofs only [go_sem, *]) | first | ((with_reducible refine cp_draw (id := 6) 15 mixed ?_ ?_ ?_); (· decide +kernel); (· first | (simp only [List.all_cons, List.all_nil, List.length_cons, List.length_nil, Nat.reduceAdd, Nat.reduceLT, decide_true, Bool.and_true, Bool.and_self]; done) | rfl); try simp -implicitDefEqProofs only [go_sem, *]) | ((with_reducible refine pre_enter _ (det_pu (c1) ?_ ?_) ?_ ?_); (· rfl); (· rfl); (· rfl); try simp -implicitDefEqProofs only [go_sem, *])))
        exact ⟨i + 1, by omega, by omega, by refine wk_tm ?_; repeat (first | exact WL.nil | (with_reducible refine WL.any _ _ _ ?_) | (with_reducible refine WL.same _ _ _ ?_) | (refine WL.eq _ _ _ _ rfl ?_))⟩
    · have hil' : ¬ (i : Int) < (a.length : Int) := by omega
      simp -implicitDefEqProofs only [go_sem, hil']
      exact fin_pu rfl rfl
theorem ltPagesSame (a : List Pg) (ha : a.length < 4611686018427387904) (hv : ∀ p ∈ a, p.vals.length < 4611686018427387904) : Fn1 Tryz.prog 17 [pgs a, pgs a] (Bo true) := by
  have := ltPages_fn a a ha hv
  rwa [samePs_iff.2 rfl] at this
theorem small_of_inv {e : Eng} (h : Inv e) : e.small := by
  have hl := h.len
  have h1 := h.disk.len
  have h2 := h.mem.len
  refine ⟨by omega, by omega, by omega, fun p hp => ?_, fun p hp => ?_⟩
  · have := rgs_vals h.disk p hp
    omega
  · have := rgs_vals h.mem p hp
    omega
end Go.Proofs.YtjdebcankncfaabGreat.Am
end
section
set_option linter.unusedVariables false
set_option linter.unusedSimpArgs false
set_option maxRecDepth 100000
set_option maxHeartbeats 8000000
namespace Go.Proofs.YtjdebcankncfaabGreat.Am
open Go Go.RowKit Go.Proofs
attribute [local congr] opsP_congr codeP_congr AWP_congr afterR_congr preP_congr afterPre_congr gPre_congr gOps_congr condP_congr stepE_congr
attribute [local go_sem] ty_int ty_bool ty_str ty_u8 ty_ints ty_bytes ty_page ty_pages ty_lpage ty_lpages ty_rec ty_recs ty_lrec ty_lrecs ty_eng ty_leng
attribute [local go_sem] true_and and_true beq_true' beq_false' toNat_cast Int.natCast_nonneg Bool.not_not Bool.not_true Bool.not_false decide_true decide_false Bool.or_false Bool.false_or Bool.or_true Bool.true_or Bool.and_false Bool.false_and Nat.zero_add Int.toNat_of_nonneg wrap_succ wrap_m1 wrap_nat succ_m1 cast0 succ_pos' succ_ne' succ_bne' ge_iff_le gt_iff_lt if_true if_false
section
attribute [local go_sem] slt_r slt_I slt_p ty_rd ty_ev ty_evs yieldR_idx'
attribute [local congr] yieldR_congr nc_congr
structure WrOk (e : Eng) (l : List Int) (i : Nat) (x : Eng) : Prop where
  ok : okE x = true
  down : x.down = false
  mem : x.mem = e.mem
  disk : ∀ p : Nat, p < 5 → at' x.disk (p : Int) = at' e.mem (p : Int) ∨ (at' x.disk (p : Int) = at' e.disk (p : Int) ∧ ∀ j : Nat, j < i → at' l (j : Int) ≠ (p : Int))
theorem ltIntsSame (a : List Int) (ha : a.length < 4611686018427387904) : Fn1 Tryz.prog 15 [ints a, ints a] (Bo true) := by
  have := ltInts_fn a a ha
  rwa [sameInts_refl] at this
end
section
attribute [local go_sem] slt_r slt_I slt_p ty_rd ty_ev ty_evs
open Go.Lib in
end
end Go.Proofs.YtjdebcankncfaabGreat.Am
end
section
set_option linter.unusedVariables false
set_option linter.unusedSimpArgs false
set_option maxRecDepth 100000
set_option maxHeartbeats 8000000
namespace Go.Proofs.YtjdebcankncfaabGreat.Am
open Go Go.RowKit Go.Proofs
attribute [local go_sem_proc] Nat.reduceAdd Nat.reduceSub Nat.reduceMul Nat.reduceLT Nat.reduceLeDiff Nat.reduceEqDiff Int.reduceBEq Int.reduceBNe Int.reduceNeg Int.reduceSub Int.reduceLE Int.reduceLT
attribute [local go_sem_proc ↓] reduceIte
attribute [local congr] opsP_congr codeP_congr AWP_congr afterR_congr preP_congr afterPre_congr gPre_congr gOps_congr condP_congr stepE_congr
attribute [local go_sem] ty_int ty_bool ty_str ty_u8 ty_ints ty_bytes ty_page ty_pages ty_lpage ty_lpages ty_rec ty_recs ty_lrec ty_lrecs ty_eng ty_leng
attribute [local go_sem] true_and and_true beq_true' beq_false' toNat_cast Int.natCast_nonneg Bool.not_not Bool.not_true Bool.not_false decide_true decide_false Bool.or_false Bool.false_or Bool.or_true Bool.true_or Bool.and_false Bool.false_and Nat.zero_add Int.toNat_of_nonneg wrap_succ wrap_m1 wrap_nat succ_m1 cast0 succ_pos' succ_ne' succ_bne' ge_iff_le gt_iff_lt if_true if_false
attribute [local go_sem] slt_r slt_I slt_p ty_rd ty_ev ty_evs
def loadD (e : Eng) (tx page : Int) (vals : List Int) : Eng × Bool := if okE e = true then e.load tx page vals else (zeroE, false)
def ownD (e : Eng) (tx page table : Int) : Eng × Bool := if okE e = true then e.own tx page table else (zeroE, false)
theorem ChangeLoadS_fn (e : Eng) (tx page : Int) (vals : List Int) (h : e.small) (hv : vals.length < 4611686018427387904) : Fn1 Tryz.prog 12 [eA e, I tx, I page, ints vals] (.tup [eA (loadD e tx page vals).1, Bo (loadD e tx page vals).2]) := by
  have c1 := okS e h
  refine fn1_of Tryz.func12 rfl rfl ?_
  unfold loadD
  rcases hok : okE e with _ | _
  · rw [if_neg (by simp)]
    rw [hok] at c1
    simp -implicitDefEqProofs only [go_sem, Tryz.f12]
    (repeat' (first | ((with_reducible first | refine gon ?_ ?_ | refine gos ?_ ?_ | refine cdn ?_ ?_ | refine cds ?_ ?_ | refine gpn ?_ ?_ | refine gps ?_ ?_) <;> intro h <;> (try simp only [dt, df, gi, gt] at h) <;> try simp -implicitDefEqProofs only [go_sem, *]) | ((with_reducible refine And.intro ?_ ?_); (· first | omega | (simp only [List.length_take]; omega)); try simp -implicitDefEqProofs only [go_sem, *]) | ((with_reducible refine enter_pu (c1) ?_ ?_ ?_); (· rfl); (· rfl); try simp -implicitDefEqProofs only [go_sem, *])))
    exact fin_drawn rd_ez ⟨⟨rfl, rfl⟩, rfl⟩
  rw [if_pos rfl]
  rw [hok] at c1
  have hi := inv_of_ok hok
  have hi2 := load_inv hi tx page vals
  have c2 := l11Copy_c e hi.disk.sz hi.mem.sz (by have := hi.len; omega)
  have c3 := l12Load_c e tx page vals hi hv
  have ha := hi2.disk.len
  have hb := hi2.mem.len
  generalize e.load tx page vals = q at c3 ha hb ⊢
  obtain ⟨⟨qa, qb, qc, qs, qd⟩, b⟩ := q
  simp only at c3 ha hb ⊢
  clear hok hi hi2
  simp -implicitDefEqProofs only [go_sem, Tryz.f12]
  (repeat' (first | ((with_reducible first | refine gon ?_ ?_ | refine gos ?_ ?_ | refine cdn ?_ ?_ | refine cds ?_ ?_ | refine gpn ?_ ?_ | refine gps ?_ ?_) <;> intro h <;> (try simp only [dt, df, gi, gt] at h) <;> try simp -implicitDefEqProofs only [go_sem, *]) | ((with_reducible refine And.intro ?_ ?_); (· first | omega | (simp only [List.length_take]; omega)); try simp -implicitDefEqProofs only [go_sem, *]) | first | ((with_reducible refine enter_pu (c1) ?_ ?_ ?_); (· rfl); (· rfl); try simp -implicitDefEqProofs only [go_sem, *]) | ((with_reducible refine enter_fn (c2) ?_ ?_); (· rfl); try simp -implicitDefEqProofs only [go_sem, *]) | ((with_reducible refine enter_at1 [2, 3] (M2 := []) (c3) (by decide) ?_ ?_ rfl ?_); (· repeat (first | exact Keeps.nil | (refine Keeps.cons _ _ _ _ _ rfl rfl ?_ ?_; (· first | exact a2_p _ _ | exact a2_1 rfl | exact a2_I _ _)))); (· repeat (first | exact All2.nil | (refine All2.cons _ _ _ _ ?_ ?_; (· first | exact rnT_eX rfl rfl | exact rnT_prim | exact rnT_sl | exact rnT_ref rfl | exact rnT_agg rfl | exact rnT_own rfl | exact rnT_eX5 rfl rfl)))); try simp -implicitDefEqProofs only [go_sem, *])))
  all_goals exact fin_drawn (rd_oX rfl rfl ha hb) ⟨⟨rfl, rfl⟩, rfl⟩
theorem ChangeOwnS_fn (e : Eng) (tx page table : Int) (h : e.small) : Fn1 Tryz.prog 44 [eA e, I tx, I page, I table] (.tup [eA (ownD e tx page table).1, Bo (ownD e tx page table).2]) := by
  have c1 := okS e h
  refine fn1_of Tryz.func44 rfl rfl ?_
  unfold ownD
  rcases hok : okE e with _ | _
  · rw [if_neg (by simp)]
    rw [hok] at c1
    simp -implicitDefEqProofs only [go_sem, Tryz.f44]
    (repeat' (first | ((with_reducible first | refine gon ?_ ?_ | refine gos ?_ ?_ | refine cdn ?_ ?_ | refine cds ?_ ?_ | refine gpn ?_ ?_ | refine gps ?_ ?_) <;> intro h <;> (try simp only [dt, df, gi, gt] at h) <;> try simp -implicitDefEqProofs only [go_sem, *]) | ((with_reducible refine And.intro ?_ ?_); (· first | omega | (simp only [List.length_take]; omega)); try simp -implicitDefEqProofs only [go_sem, *]) | ((with_reducible refine enter_pu (c1) ?_ ?_ ?_); (· rfl); (· rfl); try simp -implicitDefEqProofs only [go_sem, *])))
    exact fin_drawn rd_ez ⟨⟨rfl, rfl⟩, rfl⟩
  rw [if_pos rfl]
  rw [hok] at c1
  have hi := inv_of_ok hok
  have hi2 := own_inv hi tx page table
  have c2 := l11Copy_c e hi.disk.sz hi.mem.sz (by have := hi.len; omega)
  have c3 := l12Own_c e tx page table hi
  have ha := hi2.disk.len
  have hb := hi2.mem.len
  generalize e.own tx page table = q at c3 ha hb ⊢
  obtain ⟨⟨qa, qb, qc, qs, qd⟩, b⟩ := q
  simp only at c3 ha hb ⊢
  clear hok hi hi2
  simp -implicitDefEqProofs only [go_sem, Tryz.f44]
  (repeat' (first | ((with_reducible first | refine gon ?_ ?_ | refine gos ?_ ?_ | refine cdn ?_ ?_ | refine cds ?_ ?_ | refine gpn ?_ ?_ | refine gps ?_ ?_) <;> intro h <;> (try simp only [dt, df, gi, gt] at h) <;> try simp -implicitDefEqProofs only [go_sem, *]) | ((with_reducible refine And.intro ?_ ?_); (· first | omega | (simp only [List.length_take]; omega)); try simp -implicitDefEqProofs only [go_sem, *]) | first | ((with_reducible refine enter_pu (c1) ?_ ?_ ?_); (· rfl); (· rfl); try simp -implicitDefEqProofs only [go_sem, *]) | ((with_reducible refine enter_fn (c2) ?_ ?_); (· rfl); try simp -implicitDefEqProofs only [go_sem, *]) | ((with_reducible refine enter_at1 [2, 3] (M2 := []) (c3) (by decide) ?_ ?_ rfl ?_); (· repeat (first | exact Keeps.nil | (refine Keeps.cons _ _ _ _ _ rfl rfl ?_ ?_; (· first | exact a2_p _ _ | exact a2_1 rfl | exact a2_I _ _)))); (· repeat (first | exact All2.nil | (refine All2.cons _ _ _ _ ?_ ?_; (· first | exact rnT_eX rfl rfl | exact rnT_prim | exact rnT_sl | exact rnT_ref rfl | exact rnT_agg rfl | exact rnT_own rfl | exact rnT_eX5 rfl rfl)))); try simp -implicitDefEqProofs only [go_sem, *])))
  all_goals exact fin_drawn (rd_oX rfl rfl ha hb) ⟨⟨rfl, rfl⟩, rfl⟩
end Go.Proofs.YtjdebcankncfaabGreat.Am
end
section
set_option linter.unusedVariables false
set_option linter.unusedSimpArgs false
set_option maxRecDepth 100000
set_option maxHeartbeats 8000000
namespace Go.Proofs.YtjdebcankncfaabGreat.Am
open Go Go.RowKit Go.Proofs
attribute [local congr] opsP_congr codeP_congr AWP_congr afterR_congr preP_congr afterPre_congr gPre_congr gOps_congr condP_congr stepE_congr
attribute [local go_sem] ty_int ty_bool ty_str ty_u8 ty_ints ty_bytes ty_page ty_pages ty_lpage ty_lpages ty_rec ty_recs ty_lrec ty_lrecs ty_eng ty_leng
attribute [local go_sem] true_and and_true beq_true' beq_false' toNat_cast Int.natCast_nonneg Bool.not_not Bool.not_true Bool.not_false decide_true decide_false Bool.or_false Bool.false_or Bool.or_true Bool.true_or Bool.and_false Bool.false_and Nat.zero_add Int.toNat_of_nonneg wrap_succ wrap_m1 wrap_nat succ_m1 cast0 succ_pos' succ_ne' succ_bne' ge_iff_le gt_iff_lt if_true if_false
section
theorem see_arg {S : Store} {b : Bool} {x y : AV} (h : Arg S b x y) : Sees S b x y := by intro ok ok' w μ v rs h1 h2 hr; exact h.sound rs h1 h2 hr
theorem see_own {S : Store} {i z off len : Nat} {o : AObj} {ds : List D} (ho : getO S i = some o) (hz : o.z = z) (hl : off + len ≤ o.es.length) (hlen : ds.length = len)
    (h : ∀ (k : Nat) (d : D), ds[k]? = some d → ∃ x, o.es[off + k]? = some x ∧ d.cells.length = x.cells.length ∧ (∀ y ∈ d.cells, y.scalar = true) ∧ ∀ (j : Nat) (y : D), d.cells[j]? = some y → ∃ c, x.cells[j]? = some c ∧ Sees S true c y.av0) :
    Sees S true (.own i z off len) (.sl z ds) := by
  intro ok ok' w μ v rs h1 h2 hr
  subst hz
  have hi := getO_some ho
  obtain ⟨hz0, hsiz⟩ := rs.siz i o hi
  cases hr with
  | own0 _ _ _ A hi' =>
    have : ds = [] := List.eq_nil_of_length_eq_zero hlen
    subst this
    exact .sl _ _ _ (.sl _ [] 0 A 0 default (fun _ _ => undef) rfl (Nat.le_refl _) (fun h => absurd rfl h) hz0 (fun i x hi => by simp at hi) (fun i x j y hi => by simp at hi) (fun i x j y hi => by simp at hi))
  | own _ _ _ _ c cs ty hi' h0 hc hb' hsz =>
    have hne : o.es ≠ [] := by intro e; simp [e] at hl; omega
    have hlive : liveB S μ (μ i) := ⟨i, o, hi, hne, rfl⟩
    have hget : ∀ (k : Nat) (d : D), ds[k]? = some d → k < len ∧ ∃ x, o.es[off + k]? = some x ∧ o.es.getD (off + k) .any = x ∧ d.cells.length = x.cells.length ∧ (∀ y ∈ d.cells, y.scalar = true) ∧ ∀ (j : Nat) (y : D), d.cells[j]? = some y → ∃ c, x.cells[j]? = some c ∧ Sees S true c y.av0 := by
      intro k d hk
      obtain ⟨x, hx, hd⟩ := h k d hk
      exact ⟨by rw [← hlen]; exact (List.getElem?_eq_some_iff.1 hk).1, x, hx, by simp [List.getD, hx], hd⟩
    refine .sl _ _ _ (.sl _ ds len _ c ⟨μ i, off * o.z, none⟩ (fun k j => (w.cell? ⟨μ i, (off + k) * o.z + j, none⟩).getD undef) hlen.symm (by omega) (fun _ => ⟨rfl, ⟨h2 rfl _ hlive, not_live_nil _ _⟩, rfl⟩) hz0 ?_ ?_ ?_)
    · intro k d hk
      obtain ⟨hlt, x, hx, _, c1, c2, _⟩ := hget k d hk
      exact ⟨by rw [c1]; exact (hsiz x (List.mem_of_getElem? hx)).1, c2⟩
    · intro k d j e hk hj
      obtain ⟨hlt, x, hx, _, c1, _, _⟩ := hget k d hk
      have hjz : j < o.z := by rw [← (hsiz x (List.mem_of_getElem? hx)).1, ← c1]; exact (List.getElem?_eq_some_iff.1 hj).1
      obtain ⟨_, v, _, hv, _⟩ := rs.cellAt hi (k := off + k) (j := j) (by omega) hjz
      rw [Addr.add_lit, ← Nat.add_assoc, ← Nat.add_mul, hv]
      rfl
    · intro k d j e hk hj
      obtain ⟨hlt, x, hx, hx', c1, c2, c3⟩ := hget k d hk
      have hjz : j < o.z := by rw [← (hsiz x (List.mem_of_getElem? hx)).1, ← c1]; exact (List.getElem?_eq_some_iff.1 hj).1
      obtain ⟨y, v, hy, hv, hr, _⟩ := rs.cellAt hi (k := off + k) (j := j) (by omega) hjz
      obtain ⟨c, hc', hs⟩ := c3 j e hj
      rw [hx', hc'] at hy
      cases hy
      rw [hv]
      exact av0_repD (S := []) (μ := μ) (c2 e (List.mem_of_getElem? hj)) (fun c hc hl => ⟨hc, hl⟩) (hs ok ok' w μ v rs h1 h2 hr)
theorem see_agg {S : Store} {b : Bool} {xs ys : List AV} (h : All2 (Sees S b) xs ys) (hy : ys.all AV.scalar = true) : Sees S b (.agg xs) (.agg ys) := by
  intro ok ok' w μ v rs h1 h2 hr
  cases hr with
  | agg _ vs hl hs hr =>
    refine .agg ys vs (by rw [h.len]; exact hl) (fun y hm => List.all_eq_true.1 hy y hm) ?_
    intro j y v hj hv
    obtain ⟨x, hx, ha⟩ := h.get j y hj
    exact ha ok ok' w μ v rs h1 h2 (hr j x v hx hv)
theorem see_tup {S : Store} {b : Bool} {xs ys : List AV} (h : All2 (Sees S b) xs ys) : Sees S b (.tup xs) (.tup ys) := by
  intro ok ok' w μ v rs h1 h2 hr
  cases hr with
  | tup _ vs hl hr =>
    refine .tup ys vs (by rw [h.len]; exact hl) ?_
    intro j y v hj hv
    obtain ⟨x, hx, ha⟩ := h.get j y hj
    exact ha ok ok' w μ v rs h1 h2 (hr j x v hx hv)
theorem see_ref {S : Store} {i z k sub : Nat} {o : AObj} {ds : List D} (ho : getO S i = some o) (hz : o.z = z) (hk : k < o.es.length) (hs : sub < z) (hl : ds.length = (o.es.getD k .any).cells.length - sub)
    (h : ∀ (j : Nat) (d : D), ds[j]? = some d → ∃ c, (o.es.getD k .any).cells[sub + j]? = some c ∧ Sees S true c d.av0) (hd : ∀ d ∈ ds, d.scalar = true) : Sees S true (.ref i z k sub) (.ro ds) := by
  intro ok ok' w μ v rs h1 h2 hr
  subst hz
  have hi := getO_some ho
  have hne : o.es ≠ [] := by intro e; simp [e] at hk
  have hlive : liveB S μ (μ i) := ⟨i, o, hi, hne, rfl⟩
  have hsz := ((rs.siz i o hi).2 (o.es.getD k .any) (by simp [List.getD, List.getElem?_eq_getElem hk])).1
  cases hr with
  | ref _ _ _ _ hi' =>
    have hcell : ∀ (j : Nat) (d : D), ds[j]? = some d → ∃ y v, w.cell? ⟨μ i, k * o.z + (sub + j), none⟩ = some v ∧ Rep ok w μ S y v ∧ Sees S true y d.av0 := by
      intro j d hj
      obtain ⟨y, hy, ha⟩ := h j d hj
      have hjz : sub + j < o.z := by rw [← hsz]; exact (List.getElem?_eq_some_iff.1 hy).1
      obtain ⟨y', v, hy', hv, hr, _⟩ := rs.cellAt hi hk hjz
      rw [hy] at hy'
      cases hy'
      exact ⟨y, v, hv, hr, ha⟩
    refine .ro ds ⟨μ i, k * o.z + sub, none⟩ (fun j => (w.cell? ⟨μ i, k * o.z + (sub + j), none⟩).getD undef) rfl (by omega) ⟨h2 rfl _ hlive, not_live_nil _ _⟩ ?_ ?_
    · intro j d hj
      obtain ⟨y, v, hv, _⟩ := hcell j d hj
      refine ⟨hd d (List.mem_of_getElem? hj), ?_⟩
      rw [Addr.add_lit, Nat.add_assoc, hv]
      rfl
    · intro j d hj
      obtain ⟨y, v, hv, hr, ha⟩ := hcell j d hj
      rw [hv]
      exact av0_repD (S := []) (μ := μ) (hd d (List.mem_of_getElem? hj)) (fun c hc hl => ⟨hc, hl⟩) (ha ok ok' w μ v rs h1 h2 hr)
section
variable {P : Program}
/-- A call that sees own objects, and hands back objects of its own. -/
theorem enter_see {f : FuncId} {args args' : List AV} {r0 : AV} {Sr : Store} {d : Tmp} {tm : List AV} {S : Store} {mv : List Nat} {K : St → Prop} (h : Fn P f args' (fun r S' => r = r0 ∧ S' = Sr)) (ha : All2 (Sees S true) args args')
    (hf : r0.flat = true) (hs : ∀ (o : AObj), some o ∈ Sr → ∀ x ∈ o.es, x.flat1 = true) (hk : K ⟨tm.set d (r0.sh S.length), S ++ shS S.length Sr, mv⟩) : afterR P (.enter f args) (some d) ⟨tm, S, mv⟩ K := by
  refine enter_any (h.frameG true ha (fun _ r S' hR => ?_)) ?_
  · obtain ⟨rfl, rfl⟩ := hR
    exact ⟨hf, hs⟩
  rintro r S' mv' ⟨r1, S1, ⟨rfl, rfl⟩, rfl, rfl, rfl⟩
  exact hk
theorem enter_see1 {f : FuncId} {args args' : List AV} {v : AV} {d : Tmp} {tm : List AV} {S : Store} {mv : List Nat} {K : St → Prop} (h : Fn1 P f args' v) (ha : All2 (Sees S true) args args') (hf : v.flat = true) (hs : v.sf = true) (hk : K ⟨tm.set d v, S, mv⟩) :
    afterR P (.enter f args) (some d) ⟨tm, S, mv⟩ K := by
  refine enter_see h ha hf (fun o ho => by cases ho) ?_
  rw [sf_spec hs]
  simpa [shS] using hk
/-- A contract's own objects as data. -/
theorem fn1_of_own {f : FuncId} {args : List AV} {r0 v : AV} {S0 : Store} (h : Fn P f args (fun r S => r = r0 ∧ S = S0)) (hs : Sees S0 true r0 v) : Fn1 P f args v := by
  refine ⟨h.1, fun ok μ w vs hok rs hl hr => (h.2 ok μ w vs hok rs hl hr).mono ?_⟩
  rintro e w' ⟨r, u, S', mv, μ', rfl, ⟨⟨rfl, rfl⟩, rfl⟩, rs', hr', md, lv, ln, mu⟩
  refine ⟨v, u, [], [], μ', rfl, ⟨⟨rfl, rfl⟩, rfl⟩, ⟨fun i o hi => by simp at hi, fun i o hi => by simp at hi, fun i j oi oj hi => by simp at hi⟩, ?_, md, fun b _ hl => absurd hl (not_live_nil _ _), by simp, fun i hi => by simp at hi⟩
  refine hs ok ok w' μ' u rs' (fun c hc _ => hc) (fun _ c hc => ?_) hr'
  rcases Nat.lt_or_ge c w.heap.size with hlt | hge
  · exact absurd (lv c hlt hc) (not_live_nil _ _)
  · exact hok c hge
end
/-- Names objects below m alone (and is no function value). -/
def AV.cl0 (m : Nat) : AV → Bool
  | .own i _ _ _ => decide (i < m)
  | .ref i _ _ _ => decide (i < m)
  | x => x.pur0
def AV.cl1 (m : Nat) : AV → Bool
  | .agg xs => xs.all (AV.cl0 m)
  | x => x.cl0 m
def AV.cl (m : Nat) : AV → Bool
  | .tup xs => xs.all (AV.cl1 m)
  | x => x.cl1 m
def clO (m : Nat) : Option AObj → Bool
  | none => false
  | some o => o.es.all (AV.cl1 m)
theorem cl0_rn {n m : Nat} {x : AV} (h : x.cl0 m = true) : Rn0 (List.range' n m) (x.sh0 n) x := by
  have hk : ∀ i, i < m → (List.range' n m)[i]? = some (i + n) := fun i hi => by rw [List.getElem?_range' hi]; simp [Nat.add_comm]
  cases x <;> simp only [AV.cl0, AV.pur0, decide_eq_true_eq, Bool.false_eq_true] at h
  all_goals first
    | exact Rn0.same _ rfl
    | exact Rn0.ref _ _ _ _ _ (hk _ h)
    | exact Rn0.own _ _ _ _ _ (hk _ h)
theorem a2_map {R : AV → AV → Prop} {f : AV → AV} : ∀ {xs : List AV}, (∀ x ∈ xs, R (f x) x) → All2 R (xs.map f) xs
  | [], _ => .nil
  | x :: xs, h => .cons _ _ _ _ (h x (by simp)) (a2_map fun y hy => h y (by simp [hy]))
theorem cl1_rn {n m : Nat} {x : AV} (h : x.cl1 m = true) : Rn1 (List.range' n m) (x.sh1 n) x := by
  cases x with
  | agg xs =>
    simp only [AV.cl1, List.all_eq_true] at h
    exact .agg _ _ (a2_map fun y hy => cl0_rn (h y hy))
  | tup xs => simp [AV.cl1, AV.cl0, AV.pur0] at h
  | clo g xs => simp [AV.cl1, AV.cl0, AV.pur0] at h
  | any => simp [AV.cl1, AV.cl0, AV.pur0] at h
  | _ => (simp only [AV.cl1] at h; simp only [AV.sh1]; exact .of _ _ (cl0_rn h))
theorem cl_rn {n m : Nat} {x : AV} (h : x.cl m = true) : RnT (List.range' n m) (x.sh n) x := by
  cases x with
  | tup xs =>
    simp only [AV.cl, List.all_eq_true] at h
    exact .tup _ _ (a2_map fun y hy => cl1_rn (h y hy))
  | _ => (simp only [AV.cl] at h; simp only [AV.sh]; exact .of _ _ (cl1_rn h))
theorem rho_range {n m N i : Nat} (h : i < m) : rho (List.range' n m) N i = i + n := by
  unfold rho
  rw [List.getD, List.getElem?_range' h]
  simp [Nat.add_comm]
theorem cl0_sh {n m N : Nat} {x : AV} (h : x.cl0 m = true) : x.rn0 (rho (List.range' n m) N) = x.sh0 n := by
  cases x <;> simp only [AV.cl0, AV.pur0, decide_eq_true_eq, Bool.false_eq_true] at h
  all_goals first
    | rfl
    | (simp only [AV.rn0, AV.sh0, rho_range h])
theorem cl1_sh {n m N : Nat} {x : AV} (h : x.cl1 m = true) : x.rn1 (rho (List.range' n m) N) = x.sh1 n := by
  cases x with
  | agg xs =>
    simp only [AV.cl1, List.all_eq_true] at h
    simp only [AV.rn1, AV.sh1]
    congr 1
    exact List.map_congr_left fun y hy => cl0_sh (h y hy)
  | tup xs => simp [AV.cl1, AV.cl0, AV.pur0] at h
  | clo g xs => simp [AV.cl1, AV.cl0, AV.pur0] at h
  | any => simp [AV.cl1, AV.cl0, AV.pur0] at h
  | _ => (simp only [AV.cl1] at h; simp only [AV.rn1, AV.sh1]; exact cl0_sh h)
theorem cl_sh {n m N : Nat} {x : AV} (h : x.cl m = true) : x.rn (rho (List.range' n m) N) = x.sh n := by
  cases x with
  | tup xs =>
    simp only [AV.cl, List.all_eq_true] at h
    simp only [AV.rn, AV.sh]
    congr 1
    exact List.map_congr_left fun y hy => cl1_sh (h y hy)
  | _ => (simp only [AV.cl] at h; simp only [AV.rn, AV.sh]; exact cl1_sh h)
theorem clO_sh {n m N : Nat} {S : Store} (h : S.all (clO m) = true) : S.map (rnO (rho (List.range' n m) N)) = shS n S := by
  unfold shS
  refine List.map_congr_left fun o ho => ?_
  rw [List.all_eq_true] at h
  cases o with
  | none => rfl
  | some o =>
    have := h _ ho
    simp only [clO, List.all_eq_true] at this
    simp only [rnO, Option.map_some]
    congr 2
    exact List.map_congr_left fun x hx => cl1_sh (this x hx)
theorem putS_row (ρ : Nat → Nat) : ∀ (X1 X A B : Store), X1.length = X.length → putS ρ (List.range' A.length X.length) X1 (A ++ X ++ B) = A ++ X1.map (rnO ρ) ++ B
  | [], [], A, B, _ => by simp [putS]
  | o :: X1, x :: X, A, B, h => by
    simp only [List.length_cons] at h ⊢
    rw [List.range'_succ, putS]
    have e : (A ++ x :: X ++ B).set A.length (rnO ρ o) = (A ++ [rnO ρ o]) ++ X ++ B := by
      rw [List.append_assoc, List.set_append_right _ _ (Nat.le_refl _), Nat.sub_self]
      simp
    have := putS_row ρ X1 X (A ++ [rnO ρ o]) B (by omega)
    rw [List.length_append, List.length_cons, List.length_nil] at this
    rw [e, this]
    simp
  | [], _ :: _, _, _, h => by simp at h
  | _ :: _, [], _, _, h => by simp at h
theorem keeps_row {n m : Nat} {T : Store} : ∀ (X0 : Store) (a : Nat), X0.all (clO m) = true → (∀ i, i < X0.length → T[a + i]? = (shS n X0)[i]?) → Keeps (List.range' n m) T (List.range' a X0.length) X0
  | [], a, _, _ => .nil
  | none :: X0, a, h, _ => by simp [clO] at h
  | some o :: X0, a, h, hT => by
    rw [List.all_cons, Bool.and_eq_true] at h
    rw [List.length_cons, List.range'_succ]
    refine .cons _ _ ⟨o.z, o.es.map (AV.sh1 n)⟩ _ _ ?_ rfl ?_ (keeps_row X0 (a + 1) h.2 fun i hi => ?_)
    · have := hT 0 (by simp)
      rw [Nat.add_zero] at this
      rw [this]
      rfl
    · have h1 := h.1
      simp only [clO, List.all_eq_true] at h1
      exact a2_map fun x hx => cl1_rn (h1 x hx)
    · have := hT (i + 1) (by simp; omega)
      rw [show a + 1 + i = a + (i + 1) by omega, this]
      rfl
theorem shS_len {n : Nat} {X : Store} : (shS n X).length = X.length := by simp [shS]
theorem mid_get {A X B : Store} {i : Nat} (h : i < X.length) : (A ++ X ++ B)[A.length + i]? = X[i]? := by
  rw [List.append_assoc, List.getElem?_append_right (by omega), Nat.add_sub_cancel_left, List.getElem?_append_left h]
theorem a2_cl {n m : Nat} : ∀ {xs : List AV}, xs.all (AV.cl m) = true → All2 (RnT (List.range' n m)) (xs.map (AV.sh n)) xs
  | [], _ => .nil
  | x :: xs, h => by
    rw [List.all_cons, Bool.and_eq_true] at h
    exact .cons _ _ _ _ (cl_rn h.1) (a2_cl h.2)
section
variable {P : Program}
/-- A call over objects that lie in a row in the caller's store; it makes none. -/
theorem enter_mid (n : Nat) {f : FuncId} {args args' : List AV} {A X0 X1 B T : Store} {r : AV} {d : Tmp} {tm : List AV} {mv : List Nat} {Kont : St → Prop} (h : AFn1 P f args' X0 r X1 []) (hT : T = A ++ shS n X0 ++ B) (hn : A.length = n) (hl : X1.length = X0.length)
    (h0 : X0.all (clO X0.length) = true) (h1 : X1.all (clO X0.length) = true) (hr : r.cl X0.length = true) (ha : args = args'.map (AV.sh n)) (hac : args'.all (AV.cl X0.length) = true) (hc : Kont ⟨tm.set d (r.sh n), A ++ shS n X1 ++ B, mv⟩) :
    afterR P (.enter f args) (some d) ⟨tm, T, mv⟩ Kont := by
  subst hT ha
  refine enter_at1 (List.range' n X0.length) h List.nodup_range' (keeps_row X0 n h0 fun i hi => ?_) (a2_cl hac) rfl ?_
  · rw [← hn]
    exact mid_get (by rw [shS_len]; exact hi)
  · rw [cl_sh hr]
    have := putS_row (rho (List.range' n X0.length) (A ++ shS n X0 ++ B).length) X1 (shS n X0) A B (by rw [shS_len]; exact hl)
    rw [shS_len, hn] at this
    show Kont ⟨tm.set d (r.sh n), putS _ _ X1 (A ++ shS n X0 ++ B), mv⟩
    rw [this, clO_sh h1]
    exact hc
end
/-- A function's end that hands on objects that lie in a row. -/
theorem fin_row (n : Nat) {A X0 B S : Store} {r r0 : AV} {mv : List Nat} {R : AV → Store → Prop} (hS : S = A ++ shS n X0 ++ B) (hn : A.length = n) (h0 : X0.all (clO X0.length) = true) (hr : r = r0.sh n) (hcl : r0.cl X0.length = true) (h : R r0 X0) :
    Fin 0 r S mv (fun r S' mv => R r S' ∧ mv = []) := by
  subst hS hr
  refine fin_keep (List.range' n X0.length) List.nodup_range' (by simp) ?_ (cl_rn hcl) h
  intro j i hj
  have hjl : j < X0.length := by simpa using (List.getElem?_eq_some_iff.1 hj).1
  rw [List.getElem?_range' hjl] at hj
  simp only [Nat.one_mul, Option.some.injEq] at hj
  subst hj
  have hx : X0[j]? = some X0[j] := List.getElem?_eq_getElem hjl
  rw [List.all_eq_true] at h0
  have hc := h0 _ (List.mem_of_getElem? hx)
  generalize X0[j] = x at hx hc
  cases x with
  | none => simp [clO] at hc
  | some o =>
    simp only [clO, List.all_eq_true] at hc
    refine ⟨⟨o.z, o.es.map (AV.sh1 n)⟩, o, ?_, hx, rfl, a2_map fun x hm => cl1_rn (hc x hm)⟩
    unfold getO
    rw [← hn, mid_get (by rw [shS_len]; exact hjl)]
    simp [shS, hx]
theorem fin_tail (n : Nat) {X0 S : Store} {r r0 : AV} {mv : List Nat} {R : AV → Store → Prop} (hS : S.drop n = shS n X0) (hn : n ≤ S.length) (h0 : X0.all (clO X0.length) = true) (hr : r = r0.sh n) (hcl : r0.cl X0.length = true) (h : R r0 X0) :
    Fin 0 r S mv (fun r S' mv => R r S' ∧ mv = []) :=
  fin_row n (A := S.take n) (X0 := X0) (B := []) (by rw [← hS, List.append_nil, List.take_append_drop]) (by rw [List.length_take]; omega) h0 hr hcl h
/-- As RnT; a value may be forgotten. -/
inductive RnA (K : List Nat) : AV → AV → Prop
  | rn (x y : AV) (h : RnT K x y) : RnA K x y
  | any (x : AV) : RnA K x .any
/-- A state whose objects K are kept alone, renumbered. -/
theorem wk_keep (K : List Nat) {n : Nat} {tm tm' : List AV} {S S' : Store} {mv : List Nat} (hn : K.Nodup) (hl : S'.length = K.length) (hnK : n ≤ K.length)
    (hS : ∀ (j i : Nat), K[j]? = some i → ∃ (o o' : AObj), getO S i = some o ∧ S'[j]? = some (some o') ∧ o'.z = o.z ∧ All2 (Rn1 K) o.es o'.es) (hm : ∀ i, i < n → K[i]? = some i) (ht : All2 (RnA K) tm tm') : WkN n ⟨tm, S, mv⟩ ⟨tm', S', mv⟩ := by
  intro ok w0 μ0 S0 μ a w h0 hr
  obtain ⟨μ', hμd⟩ : ∃ μ' : Nat → Nat, ∀ j, μ' j = μ (K.getD j 0) := ⟨_, fun j => rfl⟩
  have hμ : ∀ (j i : Nat), K[j]? = some i → μ' j = μ i := fun j i hj => by rw [hμd]; simp [List.getD, hj]
  obtain ⟨h1, h2⟩ := relS_keep hn hl (fun j i hj => by obtain ⟨o, o', a, b⟩ := hS j i hj; exact ⟨o, o', getO_some a, b⟩) hr.rs hμ
  refine ⟨μ', h1, hr.fr, hr.df, ?_, ?_, hr.md, fun b hb hl' => hr.lv b hb (h2 b hl'), ?_, ?_⟩
  · show a.tmps.size = tm'.length
    rw [ht.len]
    exact hr.sz
  · intro t y hy
    obtain ⟨x, hx, hxy⟩ := ht.get t y hy
    cases hxy with
    | rn _ h => exact h.sound h2 hl hμ (hr.tm t x hx)
    | any => exact .any _
  · show S0.length ≤ S'.length
    omega
  · intro i hi hc
    rw [hμ i i (hm i (by omega))]
    exact hr.mu i hi hc
end
section
/-- A page whose values are the object i. -/
structure Dq where
  i : Nat
  p : Pg
instance : Inhabited Dq := ⟨⟨0, default⟩⟩
abbrev dA (q : Dq) : AV := .agg [I q.p.lsn, I q.p.owner, .own q.i 1 0 q.p.vals.length]
def dps : Nat → List Pg → List Dq
  | _, [] => []
  | b, p :: ps => ⟨b, p⟩ :: dps (b + 1) ps
abbrev vO (p : Pg) : Option AObj := some ⟨1, p.vals.map I⟩
abbrev oD (b : Nat) (ps : List Pg) : Option AObj := some ⟨3, (dps b ps).map dA⟩
/-- Pages, from the place b on: the list, and each one's values. -/
def dP (b : Nat) (ps : List Pg) : Store := oD (b + 1) ps :: ps.map vO
abbrev dE (b : Nat) (e : Eng) : AV := .agg [.own b 3 0 e.disk.length, .own (b + (1 + e.disk.length)) 3 0 e.mem.length, .own (b + (2 + e.disk.length + e.mem.length)) 8 0 e.log.length, I e.safe, Bo e.down]
abbrev oR8 (l : List Rc) : Option AObj := some ⟨8, l.map rA⟩
def dS (b : Nat) (e : Eng) : Store := dP b e.disk ++ (dP (b + (1 + e.disk.length)) e.mem ++ [oR8 e.log])
theorem dps_len : ∀ (b : Nat) (ps : List Pg), (dps b ps).length = ps.length
  | _, [] => rfl
  | b, p :: ps => by simp [dps, dps_len (b + 1) ps]
theorem dps_get : ∀ (b : Nat) (ps : List Pg) (k : Nat), (dps b ps)[k]? = ps[k]?.map fun p => ⟨b + k, p⟩
  | _, [], k => by simp [dps]
  | b, p :: ps, 0 => by simp [dps]
  | b, p :: ps, k + 1 => by
    rw [dps, List.getElem?_cons_succ, dps_get (b + 1) ps k, List.getElem?_cons_succ, show b + 1 + k = b + (k + 1) by omega]
theorem dps_at {b : Nat} {ps : List Pg} {k : Nat} (h : k < ps.length) : at' (dps b ps) (k : Int) = ⟨b + k, at' ps (k : Int)⟩ := by
  simp [at', List.getD, dps_get, List.getElem?_eq_getElem h]
theorem dps_app : ∀ (b : Nat) (ps qs : List Pg), dps b (ps ++ qs) = dps b ps ++ dps (b + ps.length) qs
  | b, [], qs => by simp [dps]
  | b, p :: ps, qs => by
    rw [List.cons_append, dps, dps_app (b + 1) ps qs, dps, List.cons_append, List.length_cons, show b + 1 + ps.length = b + (ps.length + 1) by omega]
theorem dP_len {b : Nat} {ps : List Pg} : (dP b ps).length = 1 + ps.length := by simp [dP, Nat.add_comm]
theorem dS_len {b : Nat} {e : Eng} : (dS b e).length = 3 + e.disk.length + e.mem.length := by simp [dS, dP_len]; omega
theorem sh_dps (n : Nat) : ∀ (b : Nat) (ps : List Pg), ((dps b ps).map dA).map (AV.sh1 n) = (dps (n + b) ps).map dA
  | _, [] => rfl
  | b, p :: ps => by
    have := sh_dps n (b + 1) ps
    rw [dps, dps, List.map_cons, List.map_cons, List.map_cons, this, show n + (b + 1) = n + b + 1 by omega]
    simp [AV.sh1, AV.sh0, Nat.add_comm]
theorem sh_vO (n : Nat) (ps : List Pg) : shS n (ps.map vO) = ps.map vO := by
  unfold shS
  rw [List.map_map]
  refine List.map_congr_left fun p _ => ?_
  simp only [Function.comp, Option.map_some, List.map_map]
  congr 2
theorem shS_app (n : Nat) (A B : Store) : shS n (A ++ B) = shS n A ++ shS n B := by simp [shS]
theorem sh_dP (n b : Nat) (ps : List Pg) : shS n (dP b ps) = dP (n + b) ps := by
  have e : shS n (oD (b + 1) ps :: ps.map vO) = some ⟨3, ((dps (b + 1) ps).map dA).map (AV.sh1 n)⟩ :: shS n (ps.map vO) := rfl
  unfold dP
  rw [e, sh_dps, sh_vO]
  rfl
theorem sh_oR (n : Nat) (l : List Rc) : shS n [oR8 l] = [oR8 l] := by
  simp only [shS, List.map_cons, List.map_nil, Option.map_some, List.map_map]
  congr 3
theorem sh_dS (n b : Nat) (e : Eng) : shS n (dS b e) = dS (n + b) e := by
  unfold dS
  rw [shS_app, shS_app, sh_dP, sh_dP, sh_oR, Nat.add_assoc]
theorem sh_dE (n b : Nat) (e : Eng) : (dE b e).sh n = dE (n + b) e := by
  simp only [AV.sh, AV.sh1, List.map_cons, List.map_nil, AV.sh0]
  rw [show b + n = n + b by omega, show b + (1 + e.disk.length) + n = n + b + (1 + e.disk.length) by omega, show b + (2 + e.disk.length + e.mem.length) + n = n + b + (2 + e.disk.length + e.mem.length) by omega]
theorem cl_dps (m : Nat) : ∀ (b : Nat) (ps : List Pg), b + ps.length ≤ m → ((dps b ps).map dA).all (AV.cl1 m) = true
  | _, [], _ => rfl
  | b, p :: ps, h => by
    simp only [List.length_cons] at h
    rw [dps, List.map_cons, List.all_cons, cl_dps m (b + 1) ps (by omega)]
    simp [AV.cl1, AV.cl0, AV.pur0]
    omega
theorem cl_I {m : Nat} {l : List Int} : (l.map I).all (AV.cl1 m) = true := by simp [AV.cl1, AV.cl0, AV.pur0]
theorem cl_r {m : Nat} {l : List Rc} : (l.map rA).all (AV.cl1 m) = true := by simp [AV.cl1, AV.cl0, AV.pur0]
theorem cl_vO (m : Nat) (ps : List Pg) : (ps.map vO).all (clO m) = true := by
  rw [List.all_map, List.all_eq_true]
  exact fun p _ => cl_I
theorem cl_dP {m b : Nat} {ps : List Pg} (h : b + 1 + ps.length ≤ m) : (dP b ps).all (clO m) = true := by
  unfold dP
  rw [List.all_cons, cl_vO, Bool.and_true]
  exact cl_dps m (b + 1) ps h
theorem cl_oR {m : Nat} {l : List Rc} : [oR8 l].all (clO m) = true := by
  simp only [List.all_cons, List.all_nil, Bool.and_true]
  exact cl_r
theorem cl_dS {m b : Nat} {e : Eng} (h : b + (3 + e.disk.length + e.mem.length) ≤ m) : (dS b e).all (clO m) = true := by
  unfold dS
  rw [List.all_append, List.all_append, cl_dP (by omega), cl_dP (by omega), cl_oR]
  rfl
theorem cl_dE {m b : Nat} {e : Eng} (h : b + (3 + e.disk.length + e.mem.length) ≤ m) : (dE b e).cl1 m = true := by
  simp [AV.cl1, AV.cl0, AV.pur0]
  omega
theorem slt_of_cl {m : Nat} {l : List AV} (h : l.all (AV.cl1 m) = true) : (l.all fun x => x.cells.all (AV.lt1 m)) = true := by
  rw [List.all_eq_true] at h ⊢
  intro x hx
  have h0 : ∀ y : AV, y.cl0 m = true → y.lt1 m = true := by
    intro y hy
    cases y <;> simp_all [AV.cl0, AV.pur0, AV.lt1, AV.lt0]
  have := h x hx
  cases x with
  | agg xs =>
    simp only [AV.cl1, List.all_eq_true] at this
    rw [List.all_eq_true]
    exact fun y hy => h0 y (this y hy)
  | tup xs => simp [AV.cl1, AV.cl0, AV.pur0] at this
  | clo g xs => simp [AV.cl1, AV.cl0, AV.pur0] at this
  | any => simp [AV.cl1, AV.cl0, AV.pur0] at this
  | _ => simp only [AV.cells, List.all_cons, List.all_nil, Bool.and_true]; exact h0 _ this
theorem slt_cl {m : Nat} {S : Store} (h : S.all (clO m) = true) : sltB m S = true := by
  unfold sltB
  rw [List.all_eq_true] at h ⊢
  intro o ho
  cases o with
  | none => rfl
  | some o => exact slt_of_cl (h _ ho)
theorem a2_dps {K : List Nat} : ∀ (b : Nat) (ps : List Pg), (∀ k, b ≤ k → k < b + ps.length → K[k]? = some k) → All2 (Rn1 K) ((dps b ps).map dA) ((dps b ps).map dA)
  | _, [], _ => .nil
  | b, p :: ps, h => .cons _ _ _ _ (.agg _ _ (.cons _ _ _ _ (.same _ rfl) (.cons _ _ _ _ (.same _ rfl) (.cons _ _ _ _ (.own _ _ _ _ _ (h b (Nat.le_refl _) (by simp))) .nil)))) (a2_dps (b + 1) ps fun k h1 h2 => h k (by omega) (by simp only [List.length_cons]; omega))
theorem a2_app {R : AV → AV → Prop} {a b c d : List AV} (h1 : All2 R a b) (h2 : All2 R c d) : All2 R (a ++ c) (b ++ d) := by
  induction h1 with
  | nil => exact h2
  | cons x y xs ys h t ih => exact .cons _ _ _ _ h ih
theorem flat_dps : ∀ (b : Nat) (ps : List Pg), ∀ x ∈ (dps b ps).map dA, x.flat1 = true
  | _, [], _, h => by simp [dps] at h
  | b, p :: ps, x, h => by
    rw [dps, List.map_cons, List.mem_cons] at h
    rcases h with rfl | h
    · rfl
    · exact flat_dps (b + 1) ps x h
theorem flat_dP {b : Nat} {ps : List Pg} : ∀ (o : AObj), some o ∈ dP b ps → ∀ x ∈ o.es, x.flat1 = true := by
  intro o ho x hx
  unfold dP at ho
  rcases List.mem_cons.1 ho with h | h
  · cases h
    exact flat_dps _ _ x hx
  · obtain ⟨p, _, h⟩ := List.mem_map.1 h
    cases h
    obtain ⟨n, _, rfl⟩ := List.mem_map.1 hx
    rfl
theorem flat_dS {b : Nat} {e : Eng} : ∀ (o : AObj), some o ∈ dS b e → ∀ x ∈ o.es, x.flat1 = true := by
  intro o ho x hx
  unfold dS at ho
  rcases List.mem_append.1 ho with h | h
  · exact flat_dP o h x hx
  rcases List.mem_append.1 h with h | h
  · exact flat_dP o h x hx
  · rw [List.mem_singleton] at h
    cases h
    obtain ⟨n, _, rfl⟩ := List.mem_map.1 hx
    rfl
/-- The store has the objects T from the place n on. -/
def Has (S : Store) (n : Nat) (T : Store) : Prop := ∀ i, i < T.length → S[n + i]? = T[i]?
theorem Has.mid {A X B : Store} {n : Nat} (h : A.length = n) : Has (A ++ X ++ B) n X := fun i hi => by rw [← h]; exact mid_get hi
theorem Has.self (X : Store) : Has X 0 X := fun i _ => by rw [Nat.zero_add]
theorem Has.left {S X Y : Store} {n : Nat} (h : Has S n (X ++ Y)) : Has S n X := fun i hi => by
  rw [h i (by rw [List.length_append]; omega), List.getElem?_append_left hi]
theorem Has.right {S X Y : Store} {n : Nat} (h : Has S n (X ++ Y)) : Has S (n + X.length) Y := fun i hi => by
  rw [Nat.add_assoc, h _ (by rw [List.length_append]; omega), List.getElem?_append_right (by omega), Nat.add_sub_cancel_left]
theorem Has.getO {S T : Store} {n i : Nat} {o : AObj} (h : Has S n T) (hi : T[i]? = some (some o)) : getO S (n + i) = some o := by
  unfold Am.getO
  rw [h i (List.getElem?_eq_some_iff.1 hi).1, hi]
theorem see_vals {S : Store} {i n : Nat} {l : List Int} (h : getO S i = some ⟨1, l.map I⟩) (hn : n = l.length) : Sees S true (.own i 1 0 n) (ints l) := see_arg (.of1 _ _ (.of0 _ _ (arg0_I h hn)))
theorem see_same {S : Store} {x : AV} (h : x.pu = true) : Sees S true x x := see_arg (arg_of_pu h)
theorem see_dP {S : Store} {n m : Nat} {ps : List Pg} (h : Has S n (dP n ps)) (hm : m = ps.length) : Sees S true (.own n 3 0 m) (pgs ps) := by
  subst hm
  refine see_own (o := ⟨3, (dps (n + 1) ps).map dA⟩) (h.getO (i := 0) rfl) rfl (by simp [dps_len]) (by simp) ?_
  intro k d hk
  obtain ⟨p, hp, rfl⟩ : ∃ p, ps[k]? = some p ∧ pD p = d := by rw [List.getElem?_map] at hk; exact Option.map_eq_some_iff.1 hk
  have hkl : k < ps.length := (List.getElem?_eq_some_iff.1 hp).1
  refine ⟨dA ⟨n + 1 + k, p⟩, ?_, rfl, ?_, ?_⟩
  · rw [Nat.zero_add, List.getElem?_map, dps_get, hp]
    rfl
  · intro y hy
    simp only [pD, D.cells, List.mem_cons, List.not_mem_nil, or_false] at hy
    rcases hy with rfl | rfl | rfl <;> rfl
  · intro j y hj
    rcases j with _ | _ | _ | j
    · cases hj
      exact ⟨_, rfl, see_same rfl⟩
    · cases hj
      exact ⟨_, rfl, see_same rfl⟩
    · cases hj
      refine ⟨_, rfl, see_vals (i := n + 1 + k) ?_ rfl⟩
      have := h.getO (i := k + 1) (o := ⟨1, p.vals.map I⟩) (by unfold dP; rw [List.getElem?_cons_succ, List.getElem?_map, hp]; rfl)
      rw [show n + 1 + k = n + (k + 1) by omega]
      exact this
    · simp [pD, D.cells] at hj
theorem see_recs {S : Store} {i n : Nat} {l : List Rc} (h : getO S i = some ⟨8, l.map rA⟩) (hn : n = l.length) : Sees S true (.own i 8 0 n) (recs l) := see_arg (.of1 _ _ (.of0 _ _ (arg0_r h hn)))
theorem see_dE {S : Store} {n : Nat} {e : Eng} (h : Has S n (dS n e)) : Sees S true (dE n e) (eA e) := by
  unfold dS at h
  have h1 := h.left
  have h2 := h.right
  rw [dP_len] at h2
  have h3 := h2.right
  rw [dP_len] at h3
  refine see_agg (.cons _ _ _ _ (see_dP h1 rfl) (.cons _ _ _ _ (see_dP h2.left rfl) (.cons _ _ _ _ (see_recs ?_ rfl) (.cons _ _ _ _ (see_same rfl) (.cons _ _ _ _ (see_same rfl) .nil))))) rfl
  have := h3.getO (i := 0) (o := ⟨8, e.log.map rA⟩) rfl
  rw [← this]
  congr 1
  omega
end
section
def cntPs : List Pg → Nat
  | [] => 0
  | p :: ps => 2 + p.vals.length + cntPs ps
def markR (k : Int) : Rc := ⟨k, k + 1, k + 2, k + 3, k + 4, k + 5, k + 6, k + 7⟩
def markRs (k : Int) (n : Nat) : List Rc := (List.range n).map fun i : Nat => markR (k + 8 * (i : Int))
theorem markRs_len (k : Int) (n : Nat) : (markRs k n).length = n := by simp [markRs]
theorem take_succ {α : Type} [Inhabited α] {l : List α} {i : Nat} (h : i < l.length) : l.take (i + 1) = l.take i ++ [at' l (i : Int)] := (take_at l i h).symm
end
section
/-- A page with an object, or the zero page. -/
def dZ : Option Dq → AV
  | some q => dA q
  | none => .agg [I 0, I 0, .prim (.slice none 0 0)]
@[local go_sem] theorem dz_put {x : Option Dq} {a b c : AV} : AV.putAt (dZ x) 0 [a, b, c] = .agg [a, b, c] := by cases x <;> rfl
@[local go_sem] theorem set_dz {l : List (Option Dq)} {k j : Nat} {a b : Int} {v : List Int} : (l.map dZ).set k (.agg [I a, I b, .own j 1 0 v.length]) = (l.set k (some (⟨j, ⟨a, b, v⟩⟩ : Dq))).map dZ := by rw [List.map_set]; rfl
theorem getO_len {S : Store} {o : AObj} {n : Nat} (h : n = S.length) : getO (S ++ [some o]) n = some o := by
  subst h
  unfold getO
  simp
@[local go_sem] theorem set_d {l : List Dq} {k j : Nat} {a b : Int} {v : List Int} : (l.map dA).set k (.agg [I a, I b, .own j 1 0 v.length]) = (l.set k (⟨j, ⟨a, b, v⟩⟩ : Dq)).map dA := by rw [List.map_set]
@[local go_sem] theorem rnO_I {ρ : Nat → Nat} {l : List Int} : rnO ρ (some ⟨1, l.map I⟩) = some ⟨1, l.map I⟩ := by
  unfold rnO
  simp only [Option.map_some, List.map_map]
  congr 2
@[local go_sem] theorem len_mR {k : Int} {n : Nat} : (markRs k n).length = n := markRs_len k n
structure Eng.low (e : Eng) : Prop where
  mid : e.mid
  cd : cntPs e.disk ≤ 10000000000000
  cm : cntPs e.mem ≤ 10000000000000
end
section

end
end Go.Proofs.YtjdebcankncfaabGreat.Am
end
section
set_option linter.unusedVariables false
set_option linter.unusedSimpArgs false
set_option maxRecDepth 100000
set_option maxHeartbeats 8000000
namespace Go.Proofs.YtjdebcankncfaabGreat.Am
open Go Go.RowKit Go.Proofs
attribute [local go_sem_proc] Nat.reduceAdd Nat.reduceSub Nat.reduceMul Nat.reduceLT Nat.reduceLeDiff Nat.reduceEqDiff Int.reduceBEq Int.reduceBNe Int.reduceNeg Int.reduceSub Int.reduceLE Int.reduceLT
attribute [local go_sem_proc ↓] reduceIte
attribute [local congr] opsP_congr codeP_congr AWP_congr afterR_congr preP_congr afterPre_congr gPre_congr gOps_congr condP_congr stepE_congr
attribute [local go_sem] ty_int ty_bool ty_str ty_u8 ty_ints ty_bytes ty_page ty_pages ty_lpage ty_lpages ty_rec ty_recs ty_lrec ty_lrecs ty_eng ty_leng
attribute [local go_sem] true_and and_true beq_true' beq_false' toNat_cast Int.natCast_nonneg Bool.not_not Bool.not_true Bool.not_false decide_true decide_false Bool.or_false Bool.false_or Bool.or_true Bool.true_or Bool.and_false Bool.false_and Nat.zero_add Int.toNat_of_nonneg wrap_succ wrap_m1 wrap_nat succ_m1 cast0 succ_pos' succ_ne' succ_bne' ge_iff_le gt_iff_lt if_true if_false
attribute [local go_sem] slt_r slt_I slt_p
@[local go_sem] theorem scs_app {mv : List Nat} {A B : Store} : (A ++ B).map (Option.map fun o => (⟨o.z, o.es.map (AV.sc1 mv)⟩ : AObj)) = A.map (Option.map fun o => (⟨o.z, o.es.map (AV.sc1 mv)⟩ : AObj)) ++ B.map (Option.map fun o => (⟨o.z, o.es.map (AV.sc1 mv)⟩ : AObj)) := List.map_append
@[local go_sem] theorem app_d {l : List Dq} {j : Nat} {a b : Int} {v : List Int} : l.map dA ++ [.agg [I a, I b, .own j 1 0 v.length]] = (l ++ [(⟨j, ⟨a, b, v⟩⟩ : Dq)]).map dA := by simp
theorem pur_d (m : Nat) : ∀ (b : Nat) (ps : List Pg), m < b → ((dps b ps).map dA).all (AV.pur m) = true
  | _, [], _ => rfl
  | b, p :: ps, h => by
    rw [dps, List.map_cons, List.all_cons, pur_d m (b + 1) ps (by omega)]
    simp [AV.pur, AV.nm0, AV.pur0]
    omega
@[local go_sem] theorem pur_d1 {m : Nat} {ps : List Pg} : ((dps (m + 1) ps).map dA).all (AV.pur m) = true := pur_d m _ _ (by omega)
@[local go_sem] theorem pur_dx {m j n : Nat} {a b : Int} : AV.pur m (.agg [I a, I b, .own (m + j + 1) 1 0 n]) = true := by simp [AV.pur, AV.nm0, AV.pur0]; omega
@[local go_sem] theorem pur_d0 {j n : Nat} {a b : Int} : AV.pur 0 (.agg [I a, I b, .own (j + 1) 1 0 n]) = true := by simp [AV.pur, AV.nm0, AV.pur0]
@[local go_sem] theorem s_ne0 {n : Nat} : (n + 1 = 0) = False := by simp
@[local go_sem] theorem scs_v {mv : List Nat} {ps : List Pg} : (ps.map vO).map (Option.map fun o => (⟨o.z, o.es.map (AV.sc1 mv)⟩ : AObj)) = ps.map vO := by
  rw [List.map_map]
  refine List.map_congr_left fun p _ => ?_
  simp only [Function.comp, Option.map_some, List.map_map]
  congr 2
@[go_sem] theorem getO_app {X T : Store} {o : AObj} : getO (X ++ some o :: T) X.length = some o := by
  unfold getO
  simp
@[go_sem] theorem set_app {X T : Store} {o x : Option AObj} : (X ++ o :: T).set X.length x = X ++ x :: T := by
  rw [List.set_append_right _ _ (Nat.le_refl _), Nat.sub_self]
  rfl
theorem getO_at {A T : Store} {o : AObj} {i : Nat} (h : i = A.length) : getO (A ++ some o :: T) i = some o := by
  subst h
  unfold getO
  simp
theorem getO_at1 {A T : Store} {o o2 : AObj} {i : Nat} (h : i = A.length) : getO (A ++ some o :: some o2 :: T) (i + 1) = some o2 := by
  subst h
  unfold getO
  rw [List.getElem?_append_right (by omega)]
  simp
theorem copies_deep (ps : List Pg) (hb : ps.length < 1000000) (hv : ∀ p ∈ ps, 0 < p.vals.length ∧ p.vals.length < 1000000) : Fn Tryz.prog 96 [pgs ps] (fun r S => r = .own 0 3 0 ps.length ∧ S = dP 0 ps) := by
  refine fn_of Tryz.func96 rfl rfl ?_
  simp -implicitDefEqProofs only [go_sem, Tryz.f96]
  refine cp_loop (fun i : Nat => ⟨(pgs ps :: .any :: nilS :: .own 0 3 0 i :: .any :: .any :: pgs ps :: I (ps.length : Int) :: I (i : Int) :: .any :: .any :: .any :: .any :: .any :: .any :: .any :: .any :: .any :: .any :: []), dP 0 (ps.take i), [0]⟩) (fun i => i ≤ ps.length) (fun i => ps.length - i) 0 ?_ ?_ ?_
  · simp
  · refine WkN.trans (wk_nil 3 3 (by omega) rfl) (WkN.trans (wk_tm ?_) (wk_mv (by simp))); simp only [List.set_cons_succ, List.set_cons_zero, List.length_nil, List.length_cons]; repeat (first | exact WL.nil | (with_reducible refine WL.any _ _ _ ?_) | (with_reducible refine WL.same _ _ _ ?_) | (refine WL.eq _ _ _ _ rfl ?_))
  · rintro i hi
    have hb' : i < 4611686018427387904 := by omega
    by_cases hil : i < ps.length
    · have hil' : (i : Int) < (ps.length : Int) := by omega
      have hc := copied_own (at' ps (i : Int)) (hv _ (at_mem ps i hil)).1 (hv _ (at_mem ps i hil)).2
      have hdl : (dps 1 (ps.take i)).length = i := by rw [dps_len, List.length_take]; omega
      have hll : (ps.take i).length = i := by rw [List.length_take]; omega
      have hse : ∀ (o : Option AObj) (x : Option AObj) (T : Store), (List.map vO (ps.take i) ++ o :: T).set i x = List.map vO (ps.take i) ++ x :: T := fun o x T => by rw [List.set_append_right _ _ (by rw [List.length_map, hll]; exact Nat.le_refl _), List.length_map, hll, Nat.sub_self]; rfl
      have hgo : ∀ o : AObj, ∀ T : Store, getO (List.map vO (ps.take i) ++ some o :: T) i = some o := fun o T => getO_at (by rw [List.length_map, hll])
      have hgo3 : ∀ (a b : Option AObj) (c : AObj), getO (List.map vO (ps.take i) ++ [a] ++ [b] ++ [some c]) (i + 2) = some c := fun a b c => getO_len (by simp only [List.length_append, List.length_map, List.length_cons, List.length_nil, hll])
      have hgo2 : ∀ o o2 : AObj, ∀ T : Store, getO (List.map vO (ps.take i) ++ some o :: some o2 :: T) (i + 1) = some o2 := fun o o2 T => getO_at1 (by rw [List.length_map, hll])
      simp -implicitDefEqProofs only [go_sem, hil', hb', dP]
      (repeat' (first | ((with_reducible first | refine gon ?_ ?_ | refine gos ?_ ?_ | refine cdn ?_ ?_ | refine cds ?_ ?_ | refine gpn ?_ ?_ | refine gps ?_ ?_) <;> intro h <;> (try simp only [dt, df, gi, gt] at h) <;> try simp -implicitDefEqProofs only [go_sem, *]) | ((with_reducible refine And.intro ?_ ?_); (· first | omega | (simp only [List.length_take]; omega)); try simp -implicitDefEqProofs only [go_sem, *]) | ((with_reducible refine enter_fn (hc) ?_ ?_); (· rfl); try simp -implicitDefEqProofs only [go_sem, *])))
      refine ⟨⟨by omega, ?_⟩, i + 1, by omega, by omega, ?_⟩
      · rw [List.map_append, all_app, pur_d1]
        rfl
      have hK0 : ∀ k, k ≤ i → (List.range (i + 1) ++ [i + 2])[k]? = some k := fun k hk => by rw [List.getElem?_append_left (by rw [List.length_range]; omega), List.getElem?_range (by omega)]
      have hK1 : (List.range (i + 1) ++ [i + 2])[i + 1]? = some (i + 2) := by rw [List.getElem?_append_right (by rw [List.length_range]; omega), List.length_range, Nat.sub_self]; rfl
      refine WkN.trans (wk_tm (tm' := (pgs ps :: .any :: nilS :: .own 0 3 0 (i + 1) :: .any :: .any :: pgs ps :: I (ps.length : Int) :: I ((i + 1 : Nat) : Int) :: .any :: .any :: .any :: .any :: .any :: .any :: .any :: .any :: .any :: .any :: [])) ?_) (WkN.trans (wk_keep (List.range (i + 1) ++ [i + 2]) (S' := dP 0 (ps.take (i + 1))) ?_ ?_ ?_ ?_ ?_ ?_) (wk_mv (by simp)))
      · repeat (first | exact WL.nil | (with_reducible refine WL.any _ _ _ ?_) | (with_reducible refine WL.same _ _ _ ?_) | (refine WL.eq _ _ _ _ rfl ?_))
      · rw [List.nodup_append]
        exact ⟨List.nodup_range, by simp, fun a ha b hb => by rw [List.mem_range] at ha; rw [List.mem_singleton] at hb; omega⟩
      · rw [dP_len, List.length_append, List.length_range, List.length_take, List.length_cons, List.length_nil]
        omega
      · simp
      · intro j k hj
        rcases Nat.lt_or_ge j (i + 1) with h | h
        · rw [hK0 j (by omega)] at hj
          cases hj
          rcases j with _ | m
          · refine ⟨_, ⟨3, (dps 1 (ps.take (i + 1))).map dA⟩, rfl, rfl, rfl, ?_⟩
            rw [take_succ hil, dps_app, List.map_append, List.map_append]
            refine a2_app (a2_dps 1 _ fun k h1 h2 => hK0 k (by omega)) ?_
            rw [hll, Nat.add_comm 1 i]
            exact .cons _ _ _ _ (.agg _ _ (.cons _ _ _ _ (.same _ rfl) (.cons _ _ _ _ (.same _ rfl) (.cons _ _ _ _ (.own _ _ _ _ _ hK1) .nil)))) .nil
          · refine ⟨⟨1, (at' ps (m : Int)).vals.map I⟩, ⟨1, (at' ps (m : Int)).vals.map I⟩, ?_, ?_, rfl, a2_I _ _⟩
            · unfold getO
              rw [List.getElem?_cons_succ, List.append_assoc, List.append_assoc, List.getElem?_append_left (by rw [List.length_map, hll]; omega), List.getElem?_map, List.getElem?_take_of_lt (by omega), List.getElem?_eq_getElem (by omega)]
              simp [at', List.getD, List.getElem?_eq_getElem (show m < ps.length by omega)]
            · unfold dP
              rw [List.getElem?_cons_succ, List.getElem?_map, List.getElem?_take_of_lt (by omega), List.getElem?_eq_getElem (by omega)]
              simp [at', List.getD, List.getElem?_eq_getElem (show m < ps.length by omega)]
        · have hj2 : j < (List.range (i + 1) ++ [i + 2]).length := (List.getElem?_eq_some_iff.1 hj).1
          rw [List.length_append, List.length_range, List.length_cons, List.length_nil] at hj2
          have e : j = i + 1 := by omega
          subst e
          rw [hK1] at hj
          cases hj
          refine ⟨⟨1, (at' ps (i : Int)).vals.map I⟩, ⟨1, (at' ps (i : Int)).vals.map I⟩, ?_, ?_, rfl, a2_I _ _⟩
          · show getO (List.map vO (ps.take i) ++ [_] ++ [_] ++ [_]) (i + 1) = _
            rw [List.append_assoc, List.append_assoc]
            exact getO_at1 (by rw [List.length_map, hll])
          · unfold dP
            rw [List.getElem?_cons_succ, take_succ hil, List.map_append, List.getElem?_append_right (by rw [List.length_map, hll]; omega), List.length_map, hll, Nat.sub_self]
            rfl
      · intro k hk
        exact hK0 k (by omega)
      · (repeat (first | exact All2.nil | (refine All2.cons _ _ _ _ ?_ ?_; (· first | exact RnA.any _ | exact RnA.rn _ _ rnT_prim | exact RnA.rn _ _ rnT_sl | exact RnA.rn _ _ (rt_own _ (hK0 0 (by omega))) | exact RnA.rn _ _ (rnT_ref (hK0 0 (by omega)))))))
    · have hil' : ¬ (i : Int) < (ps.length : Int) := by omega
      have e : i = ps.length := by omega
      subst e
      simp -implicitDefEqProofs only [go_sem, hil']
      rw [List.take_length]
      refine fin_tail 0 (X0 := dP 0 ps) (r0 := .own 0 3 0 ps.length) (by rw [sh_dP]; rfl) (Nat.zero_le _) (by rw [dP_len]; exact cl_dP (by omega)) rfl (by simp only [AV.cl, AV.cl1, AV.cl0, dP_len, decide_eq_true_eq]; omega) ⟨rfl, rfl⟩
theorem copiedE_deep (e : Eng) (hd : Sz e.disk) (hm : Sz e.mem) (hl : e.log.length < 1000000) : Fn Tryz.prog 71 [eA e] (fun r S => r = dE 0 e ∧ S = dS 0 e) := by
  have h3 : ∀ {ps : List Pg}, Sz ps → ps.length = 5 ∧ ∀ p ∈ ps, 0 < p.vals.length ∧ p.vals.length < 1000000 := fun {ps} h => ⟨h.len, fun p hm => by have h5 := h.len; obtain ⟨k, hk, rfl⟩ := mem_at hm; rw [h.sz k (by omega)]; omega⟩
  have c1 := copies_deep e.disk (by rw [(h3 hd).1]; omega) (h3 hd).2
  have c2 := copies_deep e.mem (by rw [(h3 hm).1]; omega) (h3 hm).2
  have c3 := CloneR_own e.log hl
  refine fn_of Tryz.func71 rfl rfl ?_
  simp -implicitDefEqProofs only [go_sem, Tryz.f71]
  (repeat' (first | ((with_reducible first | refine gon ?_ ?_ | refine gos ?_ ?_ | refine cdn ?_ ?_ | refine cds ?_ ?_ | refine gpn ?_ ?_ | refine gps ?_ ?_) <;> intro h <;> (try simp only [dt, df, gi, gt] at h) <;> try simp -implicitDefEqProofs only [go_sem, *]) | ((with_reducible refine And.intro ?_ ?_); (· first | omega | (simp only [List.length_take]; omega)); try simp -implicitDefEqProofs only [go_sem, *]) | fail))
  refine cp_drawG (id := 1) 15 (fun S => getO S 0 = some ⟨5, [eA e]⟩) mixed rfl ?_
  ((refine expG_get 0 (.ref 0 5 0 0) rfl ?_ ?_ ?_ ?_ ?_); (· decide +kernel); (· decide +kernel); (· rfl); (· (intro S hS0; simp -implicitDefEqProofs only [go_sem, hS0, *])); try simp -implicitDefEqProofs only [go_sem, List.set_cons_succ, List.set_cons_zero])
  ((refine expG_get 1 (pgs e.disk) rfl ?_ ?_ ?_ ?_ ?_); (· decide +kernel); (· decide +kernel); (· rfl); (· (intro S hS0; simp -implicitDefEqProofs only [go_sem, hS0, *])); try simp -implicitDefEqProofs only [go_sem, List.set_cons_succ, List.set_cons_zero])
  ((refine expG_get 3 (.ref 0 5 0 1) rfl ?_ ?_ ?_ ?_ ?_); (· decide +kernel); (· decide +kernel); (· rfl); (· (intro S hS0; simp -implicitDefEqProofs only [go_sem, hS0, *])); try simp -implicitDefEqProofs only [go_sem, List.set_cons_succ, List.set_cons_zero])
  ((refine expG_get 4 (pgs e.mem) rfl ?_ ?_ ?_ ?_ ?_); (· decide +kernel); (· decide +kernel); (· rfl); (· (intro S hS0; simp -implicitDefEqProofs only [go_sem, hS0, *])); try simp -implicitDefEqProofs only [go_sem, List.set_cons_succ, List.set_cons_zero])
  ((refine expG_get 6 (.ref 0 5 0 2) rfl ?_ ?_ ?_ ?_ ?_); (· decide +kernel); (· decide +kernel); (· rfl); (· (intro S hS0; simp -implicitDefEqProofs only [go_sem, hS0, *])); try simp -implicitDefEqProofs only [go_sem, List.set_cons_succ, List.set_cons_zero])
  ((refine expG_get 7 (recs e.log) rfl ?_ ?_ ?_ ?_ ?_); (· decide +kernel); (· decide +kernel); (· rfl); (· (intro S hS0; simp -implicitDefEqProofs only [go_sem, hS0, *])); try simp -implicitDefEqProofs only [go_sem, List.set_cons_succ, List.set_cons_zero])
  ((refine expG_get 9 (.ref 0 5 0 3) rfl ?_ ?_ ?_ ?_ ?_); (· decide +kernel); (· decide +kernel); (· rfl); (· (intro S hS0; simp -implicitDefEqProofs only [go_sem, hS0, *])); try simp -implicitDefEqProofs only [go_sem, List.set_cons_succ, List.set_cons_zero])
  ((refine expG_get 10 (I e.safe) rfl ?_ ?_ ?_ ?_ ?_); (· decide +kernel); (· decide +kernel); (· rfl); (· (intro S hS0; simp -implicitDefEqProofs only [go_sem, hS0, *])); try simp -implicitDefEqProofs only [go_sem, List.set_cons_succ, List.set_cons_zero])
  ((refine expG_get 11 (.ref 0 5 0 4) rfl ?_ ?_ ?_ ?_ ?_); (· decide +kernel); (· decide +kernel); (· rfl); (· (intro S hS0; simp -implicitDefEqProofs only [go_sem, hS0, *])); try simp -implicitDefEqProofs only [go_sem, List.set_cons_succ, List.set_cons_zero])
  ((refine expG_get 12 (Bo e.down) rfl ?_ ?_ ?_ ?_ ?_); (· decide +kernel); (· decide +kernel); (· rfl); (· (intro S hS0; simp -implicitDefEqProofs only [go_sem, hS0, *])); try simp -implicitDefEqProofs only [go_sem, List.set_cons_succ, List.set_cons_zero])
  ((with_reducible refine expG_one 2 ?_ ?_); (· decide +kernel); try simp -implicitDefEqProofs only [go_sem, *])
  clear h3
  (repeat' (first | ((with_reducible first | refine gon ?_ ?_ | refine gos ?_ ?_ | refine cdn ?_ ?_ | refine cds ?_ ?_ | refine gpn ?_ ?_ | refine gps ?_ ?_) <;> intro h <;> (try simp only [dt, df, gi, gt] at h) <;> try simp -implicitDefEqProofs only [go_sem, *]) | ((with_reducible refine And.intro ?_ ?_); (· first | omega | (simp only [List.length_take]; omega)); try simp -implicitDefEqProofs only [go_sem, *]) | first | ((with_reducible refine enter_fn (c1) ?_ ?_); (· rfl); try simp -implicitDefEqProofs only [go_sem, *]) | ((with_reducible refine enter_fn (c2) ?_ ?_); (· rfl); try simp -implicitDefEqProofs only [go_sem, *]) | ((with_reducible refine enter_fn (c3) ?_ ?_); (· rfl); try simp -implicitDefEqProofs only [go_sem, *]) | ((with_reducible refine expG_one 5 ?_ ?_); (· decide +kernel); try simp -implicitDefEqProofs only [go_sem, *]) | ((with_reducible refine expG_one 8 ?_ ?_); (· decide +kernel); try simp -implicitDefEqProofs only [go_sem, *]) | ((with_reducible refine expG_one 13 ?_ ?_); (· decide +kernel); try simp -implicitDefEqProofs only [go_sem, *]) | ((with_reducible refine expG_one 14 ?_ ?_); (· decide +kernel); try simp -implicitDefEqProofs only [go_sem, *]) | ((with_reducible refine expG_end ?_ ?_); (· decide +kernel); try simp -implicitDefEqProofs only [go_sem, *])))
  simp only [shS_len, dP_len]
  have e1 : shS 2 (dP 0 e.disk) = dP 2 e.disk := sh_dP 2 0 _
  have e2 : shS (1 + e.disk.length + 1 + 1) (dP 0 e.mem) = dP (2 + (1 + e.disk.length)) e.mem := by rw [sh_dP]; congr 1; omega
  rw [e1, e2]
  refine fin_tail 2 (X0 := dS 0 e) (r0 := dE 0 e) ?_ (by simp) (by rw [dS_len]; exact cl_dS (by omega)) ?_ (by rw [dS_len]; exact cl_dE (by omega)) ⟨rfl, rfl⟩
  · rw [sh_dS, List.append_assoc]
    rfl
  · rw [sh_dE, show 1 + e.disk.length + 1 + 1 = 2 + 0 + (1 + e.disk.length) by omega, show 1 + e.disk.length + (1 + e.mem.length) + 1 + 1 = 2 + 0 + (2 + e.disk.length + e.mem.length) by omega]
end Go.Proofs.YtjdebcankncfaabGreat.Am
end
section
set_option linter.unusedVariables false
set_option linter.unusedSimpArgs false
set_option maxRecDepth 100000
set_option maxHeartbeats 8000000
namespace Go.Proofs.YtjdebcankncfaabGreat.Am
open Go Go.RowKit Go.Proofs
attribute [local congr] opsP_congr codeP_congr AWP_congr afterR_congr preP_congr afterPre_congr gPre_congr gOps_congr condP_congr stepE_congr
attribute [local go_sem] ty_int ty_bool ty_str ty_u8 ty_ints ty_bytes ty_page ty_pages ty_lpage ty_lpages ty_rec ty_recs ty_lrec ty_lrecs ty_eng ty_leng
attribute [local go_sem] true_and and_true beq_true' beq_false' toNat_cast Int.natCast_nonneg Bool.not_not Bool.not_true Bool.not_false decide_true decide_false Bool.or_false Bool.false_or Bool.or_true Bool.true_or Bool.and_false Bool.false_and Nat.zero_add Int.toNat_of_nonneg wrap_succ wrap_m1 wrap_nat succ_m1 cast0 succ_pos' succ_ne' succ_bne' ge_iff_le gt_iff_lt if_true if_false
section
attribute [local go_sem] slt_r slt_I slt_p
/-- What a function that returns an engine of its own hands back: nothing, or all of it. -/
abbrev dR (q : Eng × Bool) : AV := .tup [dE 0 q.1, Bo q.2]
theorem fin_dE2 {o1 o2 : Option AObj} {X B : Store} {a b c : Nat} {mv : List Nat} (e : Eng) {bb : Bool} (hX : X = dS 2 e) (h1 : a = 2) (h2 : b = 3 + e.disk.length) (h3 : c = 4 + e.disk.length + e.mem.length) :
    Fin 0 (.tup [.agg [.own a 3 0 e.disk.length, .own b 3 0 e.mem.length, .own c 8 0 e.log.length, I e.safe, Bo e.down], Bo bb]) (o1 :: o2 :: (X ++ B)) mv (fun r S' mv => (r = dR (e, bb) ∧ S' = dS 0 e) ∧ mv = []) := by
  subst hX h1 h2 h3
  refine fin_row 2 (A := [o1, o2]) (X0 := dS 0 e) (B := B) (r0 := dR (e, bb)) ?_ rfl (by rw [dS_len]; exact cl_dS (by omega)) ?_ ?_ ⟨rfl, rfl⟩
  · rw [sh_dS]
    rfl
  · have := sh_dE 2 0 e
    simp only [AV.sh] at this ⊢
    rw [List.map_cons, this, show 3 + e.disk.length = 2 + 0 + (1 + e.disk.length) by omega, show 4 + e.disk.length + e.mem.length = 2 + 0 + (2 + e.disk.length + e.mem.length) by omega]
    rfl
  · simp only [AV.cl, List.all_cons, List.all_nil, Bool.and_true]
    rw [dS_len, cl_dE (by omega)]
    rfl
/-- An engine's value whose objects begin at n. -/
abbrev dV (n n1 n2 : Nat) (e : Eng) : AV := .agg [.own n 3 0 e.disk.length, .own n1 3 0 e.mem.length, .own n2 8 0 e.log.length, I e.safe, Bo e.down]
theorem dV_eq {n n1 n2 : Nat} {e : Eng} (h1 : n + (1 + e.disk.length) = n1) (h2 : n + (2 + e.disk.length + e.mem.length) = n2) : dV n n1 n2 e = dE n e := by subst h1 h2; rfl
section
variable {P : Program}
theorem enter_fnE {f : FuncId} {args : List AV} {e : Eng} {d : Tmp} {tm : List AV} {S : Store} {mv : List Nat} {K : St → Prop} (n n1 n2 : Nat) (hn : S.length = n) (h1 : n + (1 + e.disk.length) = n1) (h2 : n + (2 + e.disk.length + e.mem.length) = n2)
    (h : Fn P f args (fun r S' => r = dE 0 e ∧ S' = dS 0 e)) (hp : args.all AV.pu = true) (hk : ∀ A, A = S ++ dS n e → K ⟨tm.set d (dV n n1 n2 e), A, mv⟩) : afterR P (.enter f args) (some d) ⟨tm, S, mv⟩ K := by
  refine enter_fn h hp ?_
  rw [hn, sh_dE, sh_dS, Nat.add_zero, ← dV_eq h1 h2]
  exact hk _ rfl
theorem enter_seeE {f : FuncId} {args args' : List AV} {e : Eng} {b : Bool} {d : Tmp} {tm : List AV} {S : Store} {mv : List Nat} {K : St → Prop} (n n1 n2 : Nat) (hn : S.length = n) (h1 : n + (1 + e.disk.length) = n1) (h2 : n + (2 + e.disk.length + e.mem.length) = n2)
    (h : Fn P f args' (fun r S' => r = dR (e, b) ∧ S' = dS 0 e)) (ha : All2 (Sees S true) args args') (hk : ∀ B, B = dS n e → K ⟨tm.set d (.tup [dV n n1 n2 e, Bo b]), S ++ B, mv⟩) : afterR P (.enter f args) (some d) ⟨tm, S, mv⟩ K := by
  refine enter_see h ha rfl flat_dS ?_
  have e1 : (dR (e, b)).sh n = .tup [dV n n1 n2 e, Bo b] := by
    have := sh_dE n 0 e
    simp only [AV.sh] at this ⊢
    rw [List.map_cons, this, Nat.add_zero, ← dV_eq h1 h2]
    rfl
  rw [hn, e1, sh_dS, Nat.add_zero]
  exact hk _ rfl
end
theorem has_mid {A X T : Store} {n : Nat} (h : A.length = n) : Has (A ++ (X ++ T)) n X := by
  rw [← List.append_assoc]
  exact Has.mid h
abbrev zA : AV := .agg [.prim (.slice none 0 0), .prim (.slice none 0 0), .prim (.slice none 0 0), I 0, Bo false]
theorem see_z {S : Store} : Sees S true zA (eA zeroE) := see_arg (.agg _ _ (.cons _ _ _ _ (.nil 3 (by decide)) (.cons _ _ _ _ (.nil 3 (by decide)) (.cons _ _ _ _ (.nil 8 (by decide)) (.cons _ _ _ _ (.same _ rfl) (.cons _ _ _ _ (.same _ rfl) .nil))))))
theorem see_zA {S : Store} {b : Bool} : Sees S true (.tup [zA, Bo b]) (.tup [eA zeroE, Bo b]) := see_tup (.cons _ _ _ _ see_z (.cons _ _ _ _ (see_same rfl) .nil))
theorem fin_z {S : Store} {mv : List Nat} {b : Bool} : Fin 0 (.tup [zA, Bo b]) S mv (fun r S' mv => (r = .tup [zA, Bo b] ∧ S' = []) ∧ mv = []) :=
  fin_keep [] (by simp) rfl (fun j i hj => by simp at hj) (.tup _ _ (.cons _ _ _ _ (.agg _ _ (a2_same rfl)) (.cons _ _ _ _ (.of _ _ (.same _ rfl)) .nil))) ⟨rfl, rfl⟩
end
section
attribute [local go_sem] slt_r slt_I slt_p
theorem list5 {α : Type} [Inhabited α] {l : List α} (h : l.length = 5) : ∃ a b c d e, l = [a, b, c, d, e] := by
  rcases l with _ | ⟨a, _ | ⟨b, _ | ⟨c, _ | ⟨d, _ | ⟨e, _ | ⟨f, l⟩⟩⟩⟩⟩⟩ <;> simp at h
  exact ⟨a, b, c, d, e, rfl⟩
/-- The objects of an engine, one by one. -/
def s13 (b : Nat) (e : Eng) : Store := [oD (b + 1) e.disk, vO (at' e.disk 0), vO (at' e.disk 1), vO (at' e.disk 2), vO (at' e.disk 3), vO (at' e.disk 4), oD (b + 7) e.mem, vO (at' e.mem 0), vO (at' e.mem 1), vO (at' e.mem 2), vO (at' e.mem 3), vO (at' e.mem 4), oR8 e.log]
theorem dS_13 {b : Nat} {e : Eng} (hd : e.disk.length = 5) (hm : e.mem.length = 5) : dS b e = s13 b e := by
  obtain ⟨ed, em, el, es, ew⟩ := e
  obtain ⟨a0, a1, a2, a3, a4, rfl⟩ := list5 hd
  obtain ⟨b0, b1, b2, b3, b4, rfl⟩ := list5 hm
  rfl
abbrev dW (e : Eng) : AV := .agg [.own 0 3 0 5, .own 6 3 0 5, .own 12 8 0 e.log.length, I e.safe, Bo e.down]
def sD (e : Eng) : Store := s13 0 e ++ [some ⟨5, [dW e]⟩]
@[local go_sem] theorem set_d' {l : List Dq} {k j : Nat} {a b : Int} {v : List Int} : (l.map dA).set k (.agg [I a, I b, .own j 1 0 v.length]) = (l.set k (⟨j, ⟨a, b, v⟩⟩ : Dq)).map dA := by rw [List.map_set]
theorem RnT_pu {K : List Nat} {r : AV} (h : r = .tup [] ∨ ∃ n, r = I n) : RnT K r r := by
  rcases h with rfl | ⟨n, rfl⟩
  · exact .tup _ _ .nil
  · exact rnT_prim
theorem fin_movK (K : List Nat) (mv' : List Nat) {n0 : Nat} {r r' : AV} {S S' : Store} {mv : List Nat} {Q : AV → Store → List Nat → Prop} (hn : K.Nodup) (hn0 : n0 ≤ K.length) (hk : Keeps K S K S')
    (hm : ∀ i, i < n0 → mv'.contains i = false → K[i]? = some i ∧ mv.contains i = false) (hr : RnT K r r') (h : Q r' S' mv') : Fin n0 r S mv Q :=
  fin_move K mv' hn hk.spec.1 hn0 (fun j i hj => by
    obtain ⟨o, o', h1, h2, h3, h4⟩ := hk.spec.2 j i hj
    exact ⟨o, o', by unfold getO; rw [h1], h2, h3, h4⟩) hm hr h
end
end Go.Proofs.YtjdebcankncfaabGreat.Am
end
section
set_option linter.unusedVariables false
set_option linter.unusedSimpArgs false
set_option maxRecDepth 100000
set_option maxHeartbeats 8000000
namespace Go.Proofs.YtjdebcankncfaabGreat.Am
open Go Go.RowKit Go.Proofs
attribute [local go_sem_proc] Nat.reduceAdd Nat.reduceSub Nat.reduceMul Nat.reduceLT Nat.reduceLeDiff Nat.reduceEqDiff Int.reduceBEq Int.reduceBNe Int.reduceNeg Int.reduceSub Int.reduceLE Int.reduceLT
attribute [local go_sem_proc ↓] reduceIte
attribute [local congr] opsP_congr codeP_congr AWP_congr afterR_congr preP_congr afterPre_congr gPre_congr gOps_congr condP_congr stepE_congr
attribute [local go_sem] ty_int ty_bool ty_str ty_u8 ty_ints ty_bytes ty_page ty_pages ty_lpage ty_lpages ty_rec ty_recs ty_lrec ty_lrecs ty_eng ty_leng
attribute [local go_sem] true_and and_true beq_true' beq_false' toNat_cast Int.natCast_nonneg Bool.not_not Bool.not_true Bool.not_false decide_true decide_false Bool.or_false Bool.false_or Bool.or_true Bool.true_or Bool.and_false Bool.false_and Nat.zero_add Int.toNat_of_nonneg wrap_succ wrap_m1 wrap_nat succ_m1 cast0 succ_pos' succ_ne' succ_bne' ge_iff_le gt_iff_lt if_true if_false
section
attribute [local go_sem] slt_r slt_I slt_p
theorem sc_dps {i : Nat} : ∀ (b : Nat) (ps : List Pg), (i < b ∨ b + ps.length ≤ i) → ((dps b ps).map dA).map (AV.sc1 [i]) = (dps b ps).map dA
  | _, [], _ => rfl
  | b, p :: ps, h => by
    simp only [List.length_cons] at h
    have ih := sc_dps (i := i) (b + 1) ps (by omega)
    have hne : ¬ b = i := by omega
    rw [dps, List.map_cons, List.map_cons, ih]
    simp [AV.sc1, AV.sc0, hne]
theorem cl_s13 {m b : Nat} {e : Eng} (hd : e.disk.length = 5) (hm : e.mem.length = 5) (h : b + 13 ≤ m) : (s13 b e).all (clO m) = true := by
  rw [← dS_13 hd hm]
  exact cl_dS (by omega)
theorem slt_sD {e : Eng} (hd : e.disk.length = 5) (hm : e.mem.length = 5) : sltB (sD e).length (sD e) = true := by
  refine slt_cl ?_
  unfold sD
  rw [List.all_append, cl_s13 hd hm (by simp [s13])]
  rfl
/-- The end of a function over an engine behind a pointer: what it made besides is dropped. -/
theorem fin_sD {e : Eng} {T : Store} {mv : List Nat} {r : AV} {Q : AV → Store → List Nat → Prop} (hd : e.disk.length = 5) (hm : e.mem.length = 5) (hr : r.ltB 14 = true) (h : Q r (sD e) mv) : Fin 14 r (sD e ++ T) mv Q :=
  fin_trunc (Nat.le_refl 14) hr (slt_sD hd hm) h
theorem addD (e : Eng) (r : Rc) (hd : Sz e.disk) (hm : Sz e.mem) (hl : e.log.length ≤ 1000) : AFn1 Tryz.prog 53 [.ref 13 5 0 0, rA r] (sD e) (I ((e.log.length + 1 : Nat) : Int)) (sD ⟨e.disk, e.mem, e.alog r, e.safe, e.down⟩) [12] := by
  have hd5 := hd.len
  have hm5 := hm.len
  have hs1 := sc_dps (i := 12) 1 e.disk (by omega)
  have hs2 := sc_dps (i := 12) 7 e.mem (by omega)
  have c1 := lastC e.log r.tx (by omega)
  refine afn1_of Tryz.func53 rfl rfl ?_
  unfold sD s13
  simp only [List.cons_append, List.nil_append, Nat.zero_add]
  simp -implicitDefEqProofs only [go_sem, Tryz.f53]
  refine cp_drawG (id := 1) 9 (fun S => getO S 13 = some ⟨5, [dW e]⟩) mixed rfl ?_
  ((refine expG_get 0 (.ref 13 5 0 0) rfl ?_ ?_ (by repeat (first | rfl | refine And.intro rfl ?_)) ?_ ?_); (· decide +kernel); (· decide +kernel); (· (intro S hS0; simp -implicitDefEqProofs only [go_sem, hS0, *])); try simp -implicitDefEqProofs only [go_sem, List.set_cons_succ, List.set_cons_zero])
  ((refine expG_get 1 (.ref 13 5 0 0) rfl ?_ ?_ (by repeat (first | rfl | refine And.intro rfl ?_)) ?_ ?_); (· decide +kernel); (· decide +kernel); (· (intro S hS0; simp -implicitDefEqProofs only [go_sem, hS0, *])); try simp -implicitDefEqProofs only [go_sem, List.set_cons_succ, List.set_cons_zero])
  ((refine expG_get 2 (.ref 13 5 0 2) rfl ?_ ?_ (by repeat (first | rfl | refine And.intro rfl ?_)) ?_ ?_); (· decide +kernel); (· decide +kernel); (· (intro S hS0; simp -implicitDefEqProofs only [go_sem, hS0, *])); try simp -implicitDefEqProofs only [go_sem, List.set_cons_succ, List.set_cons_zero])
  ((refine expG_get 3 (.own 12 8 0 e.log.length) rfl ?_ ?_ (by repeat (first | rfl | refine And.intro rfl ?_)) ?_ ?_); (· decide +kernel); (· decide +kernel); (· (intro S hS0; simp -implicitDefEqProofs only [go_sem, hS0, *])); try simp -implicitDefEqProofs only [go_sem, List.set_cons_succ, List.set_cons_zero])
  (repeat' (first | ((with_reducible first | refine gon ?_ ?_ | refine gos ?_ ?_ | refine cdn ?_ ?_ | refine cds ?_ ?_ | refine gpn ?_ ?_ | refine gps ?_ ?_) <;> intro h <;> (try simp only [dt, df, gi, gt] at h) <;> try simp -implicitDefEqProofs only [go_sem, *]) | ((with_reducible refine And.intro ?_ ?_); (· first | omega | (simp only [List.length_take]; omega)); try simp -implicitDefEqProofs only [go_sem, *]) | first | ((with_reducible refine expG_one 4 ?_ ?_); (· decide +kernel); try simp -implicitDefEqProofs only [go_sem, *]) | ((with_reducible refine expG_one 5 ?_ ?_); (· decide +kernel); try simp -implicitDefEqProofs only [go_sem, *]) | ((with_reducible refine expG_one 6 ?_ ?_); (· decide +kernel); try simp -implicitDefEqProofs only [go_sem, *])))
  refine enter_see1 c1 (.cons _ _ _ _ (see_recs rfl rfl) (.cons _ _ _ _ (see_same rfl) .nil)) rfl rfl ?_
  simp -implicitDefEqProofs only [go_sem, true_and]
  (repeat' (first | ((with_reducible first | refine gon ?_ ?_ | refine gos ?_ ?_ | refine cdn ?_ ?_ | refine cds ?_ ?_ | refine gpn ?_ ?_ | refine gps ?_ ?_) <;> intro h <;> (try simp only [dt, df, gi, gt] at h) <;> try simp -implicitDefEqProofs only [go_sem, *]) | ((with_reducible refine And.intro ?_ ?_); (· first | omega | (simp only [List.length_take]; omega)); try simp -implicitDefEqProofs only [go_sem, *]) | first | ((with_reducible refine expG_one 7 ?_ ?_); (· decide +kernel); try simp -implicitDefEqProofs only [go_sem, *]) | ((with_reducible refine expG_one 8 ?_ ?_); (· decide +kernel); try simp -implicitDefEqProofs only [go_sem, *]) | ((with_reducible refine expG_end ?_ ?_); (· decide +kernel); try simp -implicitDefEqProofs only [go_sem, *])))
  refine cp_drawW (id := 2) 11 mixed rfl ?_
  ((refine expW_move 0 rfl ?_ ?_ ?_ ?_); (· decide +kernel); (· decide +kernel); (· decide +kernel); simp -implicitDefEqProofs only [go_sem, *])
  ((refine expW_move 1 rfl ?_ ?_ ?_ ?_); (· decide +kernel); (· decide +kernel); (· decide +kernel); simp -implicitDefEqProofs only [go_sem, *])
  refine expW_P ?_
  (repeat' (first | ((with_reducible first | refine gon ?_ ?_ | refine gos ?_ ?_ | refine cdn ?_ ?_ | refine cds ?_ ?_ | refine gpn ?_ ?_ | refine gps ?_ ?_) <;> intro h <;> (try simp only [dt, df, gi, gt] at h) <;> try simp -implicitDefEqProofs only [go_sem, *]) | ((with_reducible refine And.intro ?_ ?_); (· first | omega | (simp only [List.length_take]; omega)); try simp -implicitDefEqProofs only [go_sem, *]) | first | ((with_reducible refine exp_end ?_ ?_); (· decide +kernel); try simp -implicitDefEqProofs only [go_sem, *]) | ((with_reducible refine exp_two 2 5 ?_ ?_ ?_); (· decide +kernel); all_goals (try simp -implicitDefEqProofs only [go_sem, *])) | ((with_reducible refine exp_two 3 5 ?_ ?_ ?_); (· decide +kernel); all_goals (try simp -implicitDefEqProofs only [go_sem, *])) | ((with_reducible refine exp_two 4 5 ?_ ?_ ?_); (· decide +kernel); all_goals (try simp -implicitDefEqProofs only [go_sem, *])) | ((with_reducible refine exp_two 2 6 ?_ ?_ ?_); (· decide +kernel); all_goals (try simp -implicitDefEqProofs only [go_sem, *])) | ((with_reducible refine exp_two 3 6 ?_ ?_ ?_); (· decide +kernel); all_goals (try simp -implicitDefEqProofs only [go_sem, *])) | ((with_reducible refine exp_two 4 6 ?_ ?_ ?_); (· decide +kernel); all_goals (try simp -implicitDefEqProofs only [go_sem, *])) | ((with_reducible refine exp_one 2 ?_ ?_); (· decide +kernel); try simp -implicitDefEqProofs only [go_sem, *]) | ((with_reducible refine exp_one 3 ?_ ?_); (· decide +kernel); try simp -implicitDefEqProofs only [go_sem, *]) | ((with_reducible refine exp_one 4 ?_ ?_); (· decide +kernel); try simp -implicitDefEqProofs only [go_sem, *]) | ((with_reducible refine exp_one 5 ?_ ?_); (· decide +kernel); try simp -implicitDefEqProofs only [go_sem, *]) | ((with_reducible refine exp_one 6 ?_ ?_); (· decide +kernel); try simp -implicitDefEqProofs only [go_sem, *]) | ((with_reducible refine exp_one 7 ?_ ?_); (· decide +kernel); try simp -implicitDefEqProofs only [go_sem, *]) | ((with_reducible refine exp_one 8 ?_ ?_); (· decide +kernel); try simp -implicitDefEqProofs only [go_sem, *]) | ((with_reducible refine exp_one 9 ?_ ?_); (· decide +kernel); try simp -implicitDefEqProofs only [go_sem, *]) | ((with_reducible refine exp_one 10 ?_ ?_); (· decide +kernel); try simp -implicitDefEqProofs only [go_sem, *])))
  all_goals
    rw [show e.log.length + 1 = (e.alog r).length from (alog_len e r).symm]
    exact fin_sD (e := ⟨e.disk, e.mem, e.alog r, e.safe, e.down⟩) (T := [_, _]) hd5 hm5 rfl ⟨rfl, rfl, rfl⟩
end
section
attribute [local go_sem] slt_r slt_I slt_p
end
end Go.Proofs.YtjdebcankncfaabGreat.Am
end
section
set_option linter.unusedVariables false
set_option linter.unusedSimpArgs false
set_option maxRecDepth 100000
set_option maxHeartbeats 8000000
namespace Go.Proofs.YtjdebcankncfaabGreat.Am
open Go Go.RowKit Go.Proofs
attribute [local congr] opsP_congr codeP_congr AWP_congr afterR_congr preP_congr afterPre_congr gPre_congr gOps_congr condP_congr stepE_congr
attribute [local go_sem] ty_int ty_bool ty_str ty_u8 ty_ints ty_bytes ty_page ty_pages ty_lpage ty_lpages ty_rec ty_recs ty_lrec ty_lrecs ty_eng ty_leng
attribute [local go_sem] true_and and_true beq_true' beq_false' toNat_cast Int.natCast_nonneg Bool.not_not Bool.not_true Bool.not_false decide_true decide_false Bool.or_false Bool.false_or Bool.or_true Bool.true_or Bool.and_false Bool.false_and Nat.zero_add Int.toNat_of_nonneg wrap_succ wrap_m1 wrap_nat succ_m1 cast0 succ_pos' succ_ne' succ_bne' ge_iff_le gt_iff_lt if_true if_false
section
attribute [local go_sem] slt_r slt_I slt_p
theorem filterMap_range {n m : Nat} : ∀ {M : List Nat}, (∀ j ∈ M, j < m) → M.filterMap (fun j => (List.range' n m)[j]?) = M.map (· + n)
  | [], _ => rfl
  | j :: M, h => by
    have hj : (List.range' n m)[j]? = some (j + n) := by rw [List.getElem?_range' (h j (by simp))]; simp [Nat.add_comm]
    rw [List.filterMap_cons, hj, filterMap_range fun k hk => h k (by simp [hk])]
    rfl
theorem scS_app {mv : List Nat} {A B : Store} : scS mv (A ++ B) = scS mv A ++ scS mv B := by rw [scS_eq, scS_eq, scS_eq, List.map_append]
theorem scS_len {mv : List Nat} {A : Store} : (scS mv A).length = A.length := by rw [scS_eq]; simp
section
variable {P : Program}
/-- As enter_mid; the callee may lay some of the objects elsewhere. -/
theorem enter_midM (n : Nat) {f : FuncId} {args args' : List AV} {A X0 X1 B T : Store} {r : AV} {M : List Nat} {d : Tmp} {tm : List AV} {mv : List Nat} {Kont : St → Prop} (M' : List Nat) (h : AFn1 P f args' X0 r X1 M) (hT : T = A ++ shS n X0 ++ B) (hn : A.length = n) (hl : X1.length = X0.length)
    (h0 : X0.all (clO X0.length) = true) (h1 : X1.all (clO X0.length) = true) (hr : r.cl X0.length = true) (ha : args = args'.map (AV.sh n)) (hac : args'.all (AV.cl X0.length) = true) (hM : ∀ j ∈ M, j < X0.length) (hM' : M.map (· + n) = M') (hA : scS M' A = A) (hB : scS M' B = B)
    (hc : Kont ⟨(scT M' tm).set d (r.sh n), A ++ shS n X1 ++ B, M' ++ mv⟩) : afterR P (.enter f args) (some d) ⟨tm, T, mv⟩ Kont := by
  subst hT ha
  refine enter_at1 (List.range' n X0.length) h List.nodup_range' (keeps_row X0 n h0 fun i hi => ?_) (a2_cl hac) (filterMap_range hM) ?_
  · rw [← hn]
    exact mid_get (by rw [shS_len]; exact hi)
  · rw [cl_sh hr, hM']
    have hl2 : (scS M' (shS n X0)).length = X0.length := by rw [scS_len, shS_len]
    have := putS_row (rho (List.range' n X0.length) (A ++ shS n X0 ++ B).length) X1 (scS M' (shS n X0)) A B (by rw [hl2]; exact hl)
    rw [hl2, hn] at this
    rw [scS_app, scS_app, hA, hB, this, clO_sh h1]
    exact hc
end
theorem sD_len {e : Eng} : (sD e).length = 14 := rfl
theorem cl_sD {e : Eng} (hd : e.disk.length = 5) (hm : e.mem.length = 5) : (sD e).all (clO 14) = true := by
  unfold sD
  rw [List.all_append, cl_s13 hd hm (by omega)]
  rfl
theorem sh0_sD {e : Eng} : shS 0 (sD e) = sD e := by
  have h1 : ∀ x : AV, x.cl1 14 = true → x.sh1 0 = x := by
    intro x hx
    have h0 : ∀ y : AV, y.cl0 14 = true → y.sh0 0 = y := fun y hy => by cases y <;> simp_all [AV.sh0, AV.cl0, AV.pur0]
    cases x with
    | agg xs =>
      simp only [AV.cl1, List.all_eq_true] at hx
      simp only [AV.sh1]
      congr 1
      conv => rhs; rw [← List.map_id xs]
      exact List.map_congr_left fun y hy => h0 y (hx y hy)
    | tup xs => simp [AV.cl1, AV.cl0, AV.pur0] at hx
    | clo g xs => simp [AV.cl1, AV.cl0, AV.pur0] at hx
    | any => simp [AV.cl1, AV.cl0, AV.pur0] at hx
    | _ => (simp only [AV.cl1] at hx; simp only [AV.sh1]; exact h0 _ hx)
  have h2 : ∀ S : Store, (∀ o ∈ S, ∀ ob, o = some ob → ∀ x ∈ ob.es, x.sh1 0 = x) → shS 0 S = S := by
    intro S h
    unfold shS
    conv => rhs; rw [← List.map_id S]
    refine List.map_congr_left fun o ho => ?_
    cases o with
    | none => rfl
    | some ob =>
      have h3 : ob.es.map (AV.sh1 0) = ob.es := by
        conv => rhs; rw [← List.map_id ob.es]
        exact List.map_congr_left fun x hx => h _ ho ob rfl x hx
      simp [h3]
  refine h2 _ fun o ho ob e1 x hx => ?_
  subst e1
  have hd : ∀ (b : Nat) (ps : List Pg), ∀ x ∈ (dps b ps).map dA, x.sh1 0 = x := by
    intro b ps
    induction ps generalizing b with
    | nil => intro x hx; simp [dps] at hx
    | cons p ps ih =>
      intro x hx
      rw [dps, List.map_cons, List.mem_cons] at hx
      rcases hx with rfl | hx
      · rfl
      · exact ih _ x hx
  have hi : ∀ l : List Int, ∀ x ∈ l.map I, x.sh1 0 = x := fun l x hx => by obtain ⟨n, _, rfl⟩ := List.mem_map.1 hx; rfl
  have hr : ∀ l : List Rc, ∀ x ∈ l.map rA, x.sh1 0 = x := fun l x hx => by obtain ⟨n, _, rfl⟩ := List.mem_map.1 hx; rfl
  simp only [sD, s13, List.cons_append, List.nil_append, List.mem_cons, List.not_mem_nil, or_false, Option.some.injEq] at ho
  rcases ho with rfl | rfl | rfl | rfl | rfl | rfl | rfl | rfl | rfl | rfl | rfl | rfl | rfl | rfl
  all_goals first
    | exact hd _ _ x hx
    | exact hi _ x hx
    | exact hr _ x hx
    | (rw [List.mem_singleton] at hx; subst hx; rfl)
/-- A call over an engine behind a pointer; the caller's other objects come behind it. -/
theorem enter_sD {P : Program} {f : FuncId} {args : List AV} {e e' : Eng} {B T : Store} {r : AV} {M : List Nat} {d : Tmp} {tm : List AV} {mv : List Nat} {Kont : St → Prop} (h : AFn1 P f args (sD e) r (sD e') M) (hT : T = sD e ++ B) (hd : e.disk.length = 5) (hm : e.mem.length = 5) (hd' : e'.disk.length = 5) (hm' : e'.mem.length = 5)
    (hr : r.cl 14 = true) (hr0 : r.sh 0 = r) (hac : args.all (AV.cl 14) = true) (ha0 : args.map (AV.sh 0) = args) (hM : ∀ j ∈ M, j < 14) (hB : scS M B = B) (hc : Kont ⟨(scT M tm).set d r, sD e' ++ B, M ++ mv⟩) : afterR P (.enter f args) (some d) ⟨tm, T, mv⟩ Kont := by
  refine enter_midM 0 (A := []) (X1 := sD e') (B := B) M h (by rw [sh0_sD, hT]; rfl) rfl rfl (cl_sD hd hm) (cl_sD hd' hm') hr ha0.symm hac hM (by simp) (by cases M <;> rfl) hB ?_
  rw [hr0, sh0_sD]
  exact hc
abbrev M13 : List Nat := [0, 1, 2, 3, 4, 5, 6, 7, 8, 9, 10, 11, 12]
theorem sh_s13 {n b : Nat} {e : Eng} : shS n (s13 b e) = s13 (n + b) e := by
  have hi : ∀ l : List Int, (l.map I).map (AV.sh1 n) = l.map I := fun l => by rw [List.map_map]; rfl
  have hr : ∀ l : List Rc, (l.map rA).map (AV.sh1 n) = l.map rA := fun l => by rw [List.map_map]; rfl
  simp only [s13, shS, List.map_cons, List.map_nil, Option.map_some, sh_dps, hi, hr, Nat.add_assoc]
theorem sh_sD {n : Nat} {e : Eng} : shS n (sD e) = s13 n e ++ [some ⟨5, [.agg [.own n 3 0 5, .own (6 + n) 3 0 5, .own (12 + n) 8 0 e.log.length, I e.safe, Bo e.down]]⟩] := by
  unfold sD
  rw [shS_app, sh_s13]
  simp [shS, AV.sh1, AV.sh0]
theorem sh_caps {n : Nat} : ∀ {caps : List AV}, caps.all AV.pur0 = true → caps.map (AV.sh n) = caps
  | [], _ => rfl
  | x :: xs, h => by
    rw [List.all_cons, Bool.and_eq_true] at h
    rw [List.map_cons, sh_caps h.2]
    cases x <;> simp [AV.pur0] at h <;> rfl
theorem cl_caps {m : Nat} : ∀ {caps : List AV}, caps.all AV.pur0 = true → caps.all (AV.cl m) = true
  | [], _ => rfl
  | x :: xs, h => by
    rw [List.all_cons, Bool.and_eq_true] at h
    rw [List.all_cons, cl_caps h.2, Bool.and_true]
    cases x <;> simp [AV.pur0] at h <;> rfl
theorem fin_dE5 {o1 o2 : Option AObj} {B : Store} {mv : List Nat} (e : Eng) {bb : Bool} (hd : e.disk.length = 5) (hm : e.mem.length = 5) :
    Fin 0 (.tup [.agg [.own 2 3 0 5, .own 8 3 0 5, .own 14 8 0 e.log.length, I e.safe, Bo e.down], Bo bb]) (o1 :: o2 :: (s13 2 e ++ B)) mv (fun r S' mv => (r = dR (e, bb) ∧ S' = dS 0 e) ∧ mv = []) := by
  have := fin_dE2 (o1 := o1) (o2 := o2) (X := s13 2 e) (B := B) (a := 2) (b := 8) (c := 14) (mv := mv) e (bb := bb) (dS_13 hd hm).symm rfl (by omega) (by omega)
  rw [hd, hm] at this
  exact this
theorem fin_dV (n n1 n2 : Nat) {A B S : Store} {mv : List Nat} (e : Eng) {bb : Bool} (hS : S = A ++ dS n e ++ B) (hA : A.length = n) (h1 : n + (1 + e.disk.length) = n1) (h2 : n + (2 + e.disk.length + e.mem.length) = n2) :
    Fin 0 (.tup [dV n n1 n2 e, Bo bb]) S mv (fun r S' mv => (r = dR (e, bb) ∧ S' = dS 0 e) ∧ mv = []) := by
  subst hS
  refine fin_row n (A := A) (X0 := dS 0 e) (B := B) (r0 := dR (e, bb)) (by rw [sh_dS, Nat.add_zero]) hA (by rw [dS_len]; exact cl_dS (by omega)) ?_ ?_ ⟨rfl, rfl⟩
  · have := sh_dE n 0 e
    simp only [AV.sh] at this ⊢
    rw [List.map_cons, this, Nat.add_zero, ← dV_eq h1 h2]
    rfl
  · simp only [AV.cl, List.all_cons, List.all_nil, Bool.and_true]
    rw [dS_len, cl_dE (by omega)]
    rfl
theorem fin_dVd (n n1 n2 : Nat) {S : Store} {mv : List Nat} (e : Eng) {bb : Bool} (hS : S.drop n = dS n e) (hl : n ≤ S.length) (h1 : n + (1 + e.disk.length) = n1) (h2 : n + (2 + e.disk.length + e.mem.length) = n2) :
    Fin 0 (.tup [dV n n1 n2 e, Bo bb]) S mv (fun r S' mv => (r = dR (e, bb) ∧ S' = dS 0 e) ∧ mv = []) :=
  fin_dV n n1 n2 (A := S.take n) (B := []) e (by rw [List.append_nil, ← hS, List.take_append_drop]) (by rw [List.length_take]; omega) h1 h2
end
section
attribute [local go_sem] slt_r slt_I slt_p
end
section
attribute [local go_sem] slt_r slt_I slt_p
theorem see_dR (q : Eng × Bool) : Sees (dS 0 q.1) true (dR q) (.tup [eA q.1, Bo q.2]) := see_tup (.cons _ _ _ _ (see_dE (Has.self _)) (.cons _ _ _ _ (see_same rfl) .nil))
end
end Go.Proofs.YtjdebcankncfaabGreat.Am
end
section
set_option linter.unusedVariables false
set_option linter.unusedSimpArgs false
set_option maxRecDepth 100000
set_option maxHeartbeats 8000000
namespace Go.Proofs.YtjdebcankncfaabGreat.Am
open Go Go.RowKit Go.Proofs
attribute [local go_sem_proc] Nat.reduceAdd Nat.reduceSub Nat.reduceMul Nat.reduceLT Nat.reduceLeDiff Nat.reduceEqDiff Int.reduceBEq Int.reduceBNe Int.reduceNeg Int.reduceSub Int.reduceLE Int.reduceLT
attribute [local go_sem_proc ↓] reduceIte
attribute [local congr] opsP_congr codeP_congr AWP_congr afterR_congr preP_congr afterPre_congr gPre_congr gOps_congr condP_congr stepE_congr
attribute [local go_sem] ty_int ty_bool ty_str ty_u8 ty_ints ty_bytes ty_page ty_pages ty_lpage ty_lpages ty_rec ty_recs ty_lrec ty_lrecs ty_eng ty_leng
attribute [local go_sem] true_and and_true beq_true' beq_false' toNat_cast Int.natCast_nonneg Bool.not_not Bool.not_true Bool.not_false decide_true decide_false Bool.or_false Bool.false_or Bool.or_true Bool.true_or Bool.and_false Bool.false_and Nat.zero_add Int.toNat_of_nonneg wrap_succ wrap_m1 wrap_nat succ_m1 cast0 succ_pos' succ_ne' succ_bne' ge_iff_le gt_iff_lt if_true if_false
section
attribute [local go_sem] slt_r slt_I slt_p
def cells (e : Eng) : List D := [.sl 3 (e.disk.map pD), .sl 3 (e.mem.map pD), .sl 8 (e.log.map rD), iD e.safe, .prim (.bool e.down)]
theorem see_ptr {S : Store} {e : Eng} {i a b c n m k : Nat} (ha : Sees S true (.own a 3 0 n) (pgs e.disk)) (hb : Sees S true (.own b 3 0 m) (pgs e.mem)) (hc : Sees S true (.own c 8 0 k) (recs e.log))
    (ho : getO S i = some ⟨5, [.agg [.own a 3 0 n, .own b 3 0 m, .own c 8 0 k, I e.safe, Bo e.down]]⟩) : Sees S true (.ref i 5 0 0) (.ro (cells e)) := by
  refine see_ref ho rfl (by simp) (by decide) rfl ?_ ?_
  · intro j d hd
    rw [Nat.zero_add]
    rcases j with _ | _ | _ | _ | _ | j
    · cases hd; exact ⟨_, rfl, ha⟩
    · cases hd; exact ⟨_, rfl, hb⟩
    · cases hd; exact ⟨_, rfl, hc⟩
    · cases hd; exact ⟨_, rfl, see_same rfl⟩
    · cases hd; exact ⟨_, rfl, see_same rfl⟩
    · cases hd
  · intro d hd
    simp only [cells, List.mem_cons, List.not_mem_nil, or_false] at hd
    rcases hd with rfl | rfl | rfl | rfl | rfl <;> rfl
theorem see_caps {S : Store} : ∀ {caps : List AV}, caps.all AV.pur0 = true → All2 (Sees S true) caps caps
  | [], _ => .nil
  | x :: xs, h => by
    rw [List.all_cons, Bool.and_eq_true] at h
    refine .cons _ _ _ _ (see_same ?_) (see_caps h.2)
    have h1 := h.1
    cases x <;> simp [AV.pur0] at h1 <;> rfl
theorem has_two {o1 o2 : Option AObj} {X T : Store} : Has (o1 :: o2 :: (X ++ T)) 2 X := by
  have : o1 :: o2 :: (X ++ T) = [o1, o2] ++ (X ++ T) := rfl
  rw [this]
  exact has_mid rfl
/-- The engine that change has of its own, as its callees see it. -/
theorem see_15 {o1 o2 : Option AObj} {T : Store} {e : Eng} (hd : e.disk.length = 5) (hm : e.mem.length = 5) (bb : Bool) (hb : e.down = bb) :
    Sees (o1 :: o2 :: (s13 2 e ++ some ⟨5, [.agg [.own 2 3 0 5, .own 8 3 0 5, .own 14 8 0 e.log.length, I e.safe, Bo bb]]⟩ :: T)) true (.ref 15 5 0 0) (.ro (cells e)) := by
  subst hb
  obtain ⟨S, hS⟩ : ∃ S, S = o1 :: o2 :: (s13 2 e ++ some ⟨5, [.agg [.own 2 3 0 5, .own 8 3 0 5, .own 14 8 0 e.log.length, I e.safe, Bo e.down]]⟩ :: T) := ⟨_, rfl⟩
  have hh : Has S 2 (s13 2 e) := by rw [hS]; exact has_two
  have g15 : getO S 15 = some ⟨5, [.agg [.own 2 3 0 5, .own 8 3 0 5, .own 14 8 0 e.log.length, I e.safe, Bo e.down]]⟩ := by rw [hS]; rfl
  have g14 : getO S 14 = some ⟨8, e.log.map rA⟩ := by rw [hS]; rfl
  rw [← hS]
  rw [← dS_13 hd hm] at hh
  unfold dS at hh
  have h2 := hh.right
  rw [dP_len, hd] at h2
  exact see_ptr (see_dP hh.left hd.symm) (see_dP h2.left hm.symm) (see_recs g14 rfl) g15
/-- What changing hands back, when it is done. -/
theorem change_ok (e : Eng) (tx page : Int) (g1 g2 : FuncId) (caps1 caps2 : List AV) (e' : Eng) (hok : okE e = true) (hs : e.small) (hmay : mayB e tx page = true) (hd' : e'.disk.length = 5) (hm' : e'.mem.length = 5)
    (hc1 : caps1.all AV.pur0 = true) (hc2 : caps2.all AV.pur0 = true) (hh : Fn1 Tryz.prog g1 (.ro (cells e) :: caps1) (Bo true)) (hw : AFn1 Tryz.prog g2 (.ref 13 5 0 0 :: caps2) (sD e) (.tup []) (sD e') M13)
    (hwf : Wf e'.log) (hf : e'.log.length + needTo e'.log 3 ≤ 150) :
    Fn Tryz.prog 27 [eA e, I tx, I page, .clo g1 caps1, .clo g2 caps2] (fun r S => r = dR (e', true) ∧ S = dS 0 e') := by
  have hi := inv_of_ok hok
  have hlen := hi.len
  have hd5 := hi.disk.len
  have hm5 := hi.mem.len
  have c1 := okI e hs
  rw [hok] at c1
  have c2 := copiedE_deep e hi.disk.sz hi.mem.sz (by omega)
  have c3 : Fn1 Tryz.prog 41 [.ro (cells e), I tx, I page] (Bo true) := by
    have := mayI_fn lastC (pagesC lastC) e tx page hi.wf
    rw [may_eq hok, hmay] at this
    exact this
  have c4 := fits_fn lastC e'.log hwf
  rw [decide_eq_true hf] at c4
  obtain ⟨d, hdn⟩ : ∃ d, e.down = d := ⟨_, rfl⟩
  replace hdn := Hid.mk' hdn
  clear hok hi
  refine fn_of Tryz.func27 rfl rfl ?_
  simp -implicitDefEqProofs only [go_sem, Tryz.f27]
  (repeat' (first | ((with_reducible first | refine gon ?_ ?_ | refine gos ?_ ?_ | refine cdn ?_ ?_ | refine cds ?_ ?_ | refine gpn ?_ ?_ | refine gps ?_ ?_) <;> intro h <;> (try simp only [dt, df, gi, gt] at h) <;> try simp -implicitDefEqProofs only [go_sem, *]) | ((with_reducible refine And.intro ?_ ?_); (· first | omega | (simp only [List.length_take]; omega)); try simp -implicitDefEqProofs only [go_sem, *]) | ((with_reducible refine enter_pu (c1) ?_ ?_ ?_); (· rfl); (· rfl); try simp -implicitDefEqProofs only [go_sem, *])))
  refine enter_fnE 2 8 14 rfl (by omega) (by omega) c2 rfl ?_
  intro A hA
  rw [dS_13 hd5 hm5] at hA
  subst hA
  simp only [s13, dV, hd5, hm5, List.cons_append, List.nil_append]
  simp -implicitDefEqProofs only [go_sem, true_and]
  refine enter_see1 c3 (.cons _ _ _ _ (see_15 hd5 hm5 _ rfl) (.cons _ _ _ _ (see_same rfl) (.cons _ _ _ _ (see_same rfl) .nil))) rfl rfl ?_
  simp -implicitDefEqProofs only [go_sem, true_and]
  refine enter_see1 hh (.cons _ _ _ _ (see_15 hd5 hm5 _ rfl) (see_caps hc1)) rfl rfl ?_
  simp -implicitDefEqProofs only [go_sem, true_and]
  refine enter_midM 2 (A := [_, _]) (X0 := sD e) (X1 := sD e') (B := []) (args' := .ref 13 5 0 0 :: caps2) [2, 3, 4, 5, 6, 7, 8, 9, 10, 11, 12, 13, 14] hw (by rw [sh_sD]; rfl) rfl rfl (cl_sD hd5 hm5) (cl_sD hd' hm') rfl ?_ ?_ (by rw [sD_len]; decide) rfl rfl rfl ?_
  · rw [List.map_cons, sh_caps hc2]
    rfl
  · rw [List.all_cons, sD_len, cl_caps hc2]
    rfl
  rw [sh_sD]
  simp only [s13, scT, List.cons_append, List.nil_append]
  have hs15 : ∀ k, AV.sc [2, 3, 4, 5, 6, 7, 8, 9, 10, 11, 12, 13, 14] (.ref 15 5 0 k) = .ref 15 5 0 k := fun k => rfl
  have hs1 : ∀ k, AV.sc [2, 3, 4, 5, 6, 7, 8, 9, 10, 11, 12, 13, 14] (.ref 1 5 0 k) = .ref 1 5 0 k := fun k => rfl
  have hs0 : ∀ k, AV.sc [2, 3, 4, 5, 6, 7, 8, 9, 10, 11, 12, 13, 14] (.ref 0 5 0 k) = .ref 0 5 0 k := fun k => rfl
  simp -implicitDefEqProofs only [go_sem, hs15, hs1, hs0]
  refine enter_see1 c4 (.cons _ _ _ _ (see_recs rfl rfl) .nil) rfl rfl ?_
  simp -implicitDefEqProofs only [go_sem, true_and]
  exact fin_dE5 e' hd' hm'
theorem change_full (e : Eng) (tx page : Int) (g1 g2 : FuncId) (caps1 caps2 : List AV) (e' : Eng) (hok : okE e = true) (hs : e.small) (hmay : mayB e tx page = true) (hd' : e'.disk.length = 5) (hm' : e'.mem.length = 5)
    (hc1 : caps1.all AV.pur0 = true) (hc2 : caps2.all AV.pur0 = true) (hh : Fn1 Tryz.prog g1 (.ro (cells e) :: caps1) (Bo true)) (hw : AFn1 Tryz.prog g2 (.ref 13 5 0 0 :: caps2) (sD e) (.tup []) (sD e') M13)
    (hwf : Wf e'.log) (hf : ¬ (e'.log.length + needTo e'.log 3 ≤ 150)) :
    Fn Tryz.prog 27 [eA e, I tx, I page, .clo g1 caps1, .clo g2 caps2] (fun r S => r = dR (e, false) ∧ S = dS 0 e) := by
  have hi := inv_of_ok hok
  have hlen := hi.len
  have hd5 := hi.disk.len
  have hm5 := hi.mem.len
  have c1 := okI e hs
  rw [hok] at c1
  have c2 := copiedE_deep e hi.disk.sz hi.mem.sz (by omega)
  have c3 : Fn1 Tryz.prog 41 [.ro (cells e), I tx, I page] (Bo true) := by
    have := mayI_fn lastC (pagesC lastC) e tx page hi.wf
    rw [may_eq hok, hmay] at this
    exact this
  have c4 := fits_fn lastC e'.log hwf
  rw [decide_eq_false hf] at c4
  obtain ⟨d, hdn⟩ : ∃ d, e.down = d := ⟨_, rfl⟩
  replace hdn := Hid.mk' hdn
  clear hok hi
  refine fn_of Tryz.func27 rfl rfl ?_
  simp -implicitDefEqProofs only [go_sem, Tryz.f27]
  (repeat' (first | ((with_reducible first | refine gon ?_ ?_ | refine gos ?_ ?_ | refine cdn ?_ ?_ | refine cds ?_ ?_ | refine gpn ?_ ?_ | refine gps ?_ ?_) <;> intro h <;> (try simp only [dt, df, gi, gt] at h) <;> try simp -implicitDefEqProofs only [go_sem, *]) | ((with_reducible refine And.intro ?_ ?_); (· first | omega | (simp only [List.length_take]; omega)); try simp -implicitDefEqProofs only [go_sem, *]) | ((with_reducible refine enter_pu (c1) ?_ ?_ ?_); (· rfl); (· rfl); try simp -implicitDefEqProofs only [go_sem, *])))
  refine enter_fnE 2 8 14 rfl (by omega) (by omega) c2 rfl ?_
  intro A hA
  rw [dS_13 hd5 hm5] at hA
  subst hA
  simp only [s13, dV, hd5, hm5, List.cons_append, List.nil_append]
  simp -implicitDefEqProofs only [go_sem, true_and]
  refine enter_see1 c3 (.cons _ _ _ _ (see_15 hd5 hm5 _ rfl) (.cons _ _ _ _ (see_same rfl) (.cons _ _ _ _ (see_same rfl) .nil))) rfl rfl ?_
  simp -implicitDefEqProofs only [go_sem, true_and]
  refine enter_see1 hh (.cons _ _ _ _ (see_15 hd5 hm5 _ rfl) (see_caps hc1)) rfl rfl ?_
  simp -implicitDefEqProofs only [go_sem, true_and]
  refine enter_midM 2 (A := [_, _]) (X0 := sD e) (X1 := sD e') (B := []) (args' := .ref 13 5 0 0 :: caps2) [2, 3, 4, 5, 6, 7, 8, 9, 10, 11, 12, 13, 14] hw (by rw [sh_sD]; rfl) rfl rfl (cl_sD hd5 hm5) (cl_sD hd' hm') rfl ?_ ?_ (by rw [sD_len]; decide) rfl rfl rfl ?_
  · rw [List.map_cons, sh_caps hc2]
    rfl
  · rw [List.all_cons, sD_len, cl_caps hc2]
    rfl
  rw [sh_sD]
  simp only [s13, scT, List.cons_append, List.nil_append]
  have hs15 : ∀ k, AV.sc [2, 3, 4, 5, 6, 7, 8, 9, 10, 11, 12, 13, 14] (.ref 15 5 0 k) = .ref 15 5 0 k := fun k => rfl
  have hs1 : ∀ k, AV.sc [2, 3, 4, 5, 6, 7, 8, 9, 10, 11, 12, 13, 14] (.ref 1 5 0 k) = .ref 1 5 0 k := fun k => rfl
  have hs0 : ∀ k, AV.sc [2, 3, 4, 5, 6, 7, 8, 9, 10, 11, 12, 13, 14] (.ref 0 5 0 k) = .ref 0 5 0 k := fun k => rfl
  simp -implicitDefEqProofs only [go_sem, hs15, hs1, hs0]
  refine enter_see1 c4 (.cons _ _ _ _ (see_recs rfl rfl) .nil) rfl rfl ?_
  simp -implicitDefEqProofs only [go_sem, true_and]
  obtain ⟨T, hT⟩ : ∃ T, T = dS 16 e := ⟨_, rfl⟩
  refine enter_fnE 16 22 28 rfl (by omega) (by omega) c2 rfl ?_
  intro A hA
  rw [← hT] at hA
  subst hA
  simp only [dV, hd5, hm5, List.cons_append, List.nil_append]
  simp -implicitDefEqProofs only [go_sem, true_and]
  have key : ∀ {S : Store} {mv : List Nat}, S.drop 16 = dS 16 e → 16 ≤ S.length → Fin 0 (.tup [.agg [.own 16 3 0 5, .own 22 3 0 5, .own 28 8 0 e.log.length, I e.safe, Bo e.down], Bo false]) S mv (fun r S' mv => (r = dR (e, false) ∧ S' = dS 0 e) ∧ mv = []) := fun {S mv} h1 h2 => by
    have := fin_dVd (mv := mv) 16 22 28 e (bb := false) h1 h2 (by omega) (by omega)
    rw [dV, hd5, hm5] at this
    exact this
  refine key ?_ (by simp)
  rw [← hT]
  rfl
theorem change_hold (e : Eng) (tx page : Int) (g1 g2 : FuncId) (caps1 caps2 : List AV) (hok : okE e = true) (hs : e.small) (hmay : mayB e tx page = true)
    (hc1 : caps1.all AV.pur0 = true) (hh : Fn1 Tryz.prog g1 (.ro (cells e) :: caps1) (Bo false)) :
    Fn Tryz.prog 27 [eA e, I tx, I page, .clo g1 caps1, .clo g2 caps2] (fun r S => r = dR (e, false) ∧ S = dS 0 e) := by
  have hi := inv_of_ok hok
  have hlen := hi.len
  have hd5 := hi.disk.len
  have hm5 := hi.mem.len
  have c1 := okI e hs
  rw [hok] at c1
  have c2 := copiedE_deep e hi.disk.sz hi.mem.sz (by omega)
  have c3 : Fn1 Tryz.prog 41 [.ro (cells e), I tx, I page] (Bo true) := by
    have := mayI_fn lastC (pagesC lastC) e tx page hi.wf
    rw [may_eq hok, hmay] at this
    exact this
  obtain ⟨d, hdn⟩ : ∃ d, e.down = d := ⟨_, rfl⟩
  replace hdn := Hid.mk' hdn
  clear hok hi
  refine fn_of Tryz.func27 rfl rfl ?_
  simp -implicitDefEqProofs only [go_sem, Tryz.f27]
  (repeat' (first | ((with_reducible first | refine gon ?_ ?_ | refine gos ?_ ?_ | refine cdn ?_ ?_ | refine cds ?_ ?_ | refine gpn ?_ ?_ | refine gps ?_ ?_) <;> intro h <;> (try simp only [dt, df, gi, gt] at h) <;> try simp -implicitDefEqProofs only [go_sem, *]) | ((with_reducible refine And.intro ?_ ?_); (· first | omega | (simp only [List.length_take]; omega)); try simp -implicitDefEqProofs only [go_sem, *]) | ((with_reducible refine enter_pu (c1) ?_ ?_ ?_); (· rfl); (· rfl); try simp -implicitDefEqProofs only [go_sem, *])))
  refine enter_fnE 2 8 14 rfl (by omega) (by omega) c2 rfl ?_
  intro A hA
  rw [dS_13 hd5 hm5] at hA
  subst hA
  simp only [s13, dV, hd5, hm5, List.cons_append, List.nil_append]
  simp -implicitDefEqProofs only [go_sem, true_and]
  refine enter_see1 c3 (.cons _ _ _ _ (see_15 hd5 hm5 _ rfl) (.cons _ _ _ _ (see_same rfl) (.cons _ _ _ _ (see_same rfl) .nil))) rfl rfl ?_
  simp -implicitDefEqProofs only [go_sem, true_and]
  refine enter_see1 hh (.cons _ _ _ _ (see_15 hd5 hm5 _ rfl) (see_caps hc1)) rfl rfl ?_
  simp -implicitDefEqProofs only [go_sem, true_and]
  exact fin_dE5 e hd5 hm5
theorem change_may (e : Eng) (tx page : Int) (g1 g2 : FuncId) (caps1 caps2 : List AV) (hok : okE e = true) (hs : e.small) (hmay : mayB e tx page = false)
    :
    Fn Tryz.prog 27 [eA e, I tx, I page, .clo g1 caps1, .clo g2 caps2] (fun r S => r = dR (e, false) ∧ S = dS 0 e) := by
  have hi := inv_of_ok hok
  have hlen := hi.len
  have hd5 := hi.disk.len
  have hm5 := hi.mem.len
  have c1 := okI e hs
  rw [hok] at c1
  have c2 := copiedE_deep e hi.disk.sz hi.mem.sz (by omega)
  have c3 : Fn1 Tryz.prog 41 [.ro (cells e), I tx, I page] (Bo false) := by
    have := mayI_fn lastC (pagesC lastC) e tx page hi.wf
    rw [may_eq hok, hmay] at this
    exact this
  obtain ⟨d, hdn⟩ : ∃ d, e.down = d := ⟨_, rfl⟩
  replace hdn := Hid.mk' hdn
  clear hok hi
  refine fn_of Tryz.func27 rfl rfl ?_
  simp -implicitDefEqProofs only [go_sem, Tryz.f27]
  (repeat' (first | ((with_reducible first | refine gon ?_ ?_ | refine gos ?_ ?_ | refine cdn ?_ ?_ | refine cds ?_ ?_ | refine gpn ?_ ?_ | refine gps ?_ ?_) <;> intro h <;> (try simp only [dt, df, gi, gt] at h) <;> try simp -implicitDefEqProofs only [go_sem, *]) | ((with_reducible refine And.intro ?_ ?_); (· first | omega | (simp only [List.length_take]; omega)); try simp -implicitDefEqProofs only [go_sem, *]) | ((with_reducible refine enter_pu (c1) ?_ ?_ ?_); (· rfl); (· rfl); try simp -implicitDefEqProofs only [go_sem, *])))
  refine enter_fnE 2 8 14 rfl (by omega) (by omega) c2 rfl ?_
  intro A hA
  rw [dS_13 hd5 hm5] at hA
  subst hA
  simp only [s13, dV, hd5, hm5, List.cons_append, List.nil_append]
  simp -implicitDefEqProofs only [go_sem, true_and]
  refine enter_see1 c3 (.cons _ _ _ _ (see_15 hd5 hm5 _ rfl) (.cons _ _ _ _ (see_same rfl) (.cons _ _ _ _ (see_same rfl) .nil))) rfl rfl ?_
  simp -implicitDefEqProofs only [go_sem, true_and]
  exact fin_dE5 e hd5 hm5
theorem change_bad (e : Eng) (tx page : Int) (g1 g2 : FuncId) (caps1 caps2 : List AV) (hok : okE e = false) (hs : e.small) :
    Fn Tryz.prog 27 [eA e, I tx, I page, .clo g1 caps1, .clo g2 caps2] (fun r S => r = .tup [zA, Bo false] ∧ S = []) := by
  have c1 := okI e hs
  rw [hok] at c1
  refine fn_of Tryz.func27 rfl rfl ?_
  simp -implicitDefEqProofs only [go_sem, Tryz.f27]
  (repeat' (first | ((with_reducible first | refine gon ?_ ?_ | refine gos ?_ ?_ | refine cdn ?_ ?_ | refine cds ?_ ?_ | refine gpn ?_ ?_ | refine gps ?_ ?_) <;> intro h <;> (try simp only [dt, df, gi, gt] at h) <;> try simp -implicitDefEqProofs only [go_sem, *]) | ((with_reducible refine And.intro ?_ ?_); (· first | omega | (simp only [List.length_take]; omega)); try simp -implicitDefEqProofs only [go_sem, *]) | ((with_reducible refine enter_pu (c1) ?_ ?_ ?_); (· rfl); (· rfl); try simp -implicitDefEqProofs only [go_sem, *])))
  exact fin_z
end
section
attribute [local go_sem] slt_r slt_I slt_p
section
variable {P : Program}
theorem enter_at0 {f : FuncId} {args : List AV} {r : AV} {d : Tmp} {tm : List AV} {S : Store} {mv : List Nat} {K : St → Prop} (h : AFn1 P f args S r S []) (hk : K ⟨tm.set d r, S, mv⟩) : afterR P (.enter f args) (some d) ⟨tm, S, mv⟩ K := by
  refine enter_any h ?_
  rintro r' S' mv' ⟨rfl, rfl, rfl⟩
  exact hk
end
theorem PageEmptyI_fn (p : Pg) (hb : p.vals.length < 4611686018427387904) : Fn1 Tryz.prog 48 [pA p] (Bo (p.ok && allZero p.vals)) := by
  have c1 := PageOkI_fn p hb
  have c2 := allZero_fn p.vals hb
  refine fn1_of Tryz.func48 rfl rfl ?_
  rcases h : p.ok with _ | _
  · rw [h] at c1
    simp -implicitDefEqProofs only [go_sem, Tryz.f48]
    (repeat' (first | ((with_reducible first | refine gon ?_ ?_ | refine gos ?_ ?_ | refine cdn ?_ ?_ | refine cds ?_ ?_ | refine gpn ?_ ?_ | refine gps ?_ ?_) <;> intro h <;> (try simp only [dt, df, gi, gt] at h) <;> try simp -implicitDefEqProofs only [go_sem, *]) | ((with_reducible refine And.intro ?_ ?_); (· first | omega | (simp only [List.length_take]; omega)); try simp -implicitDefEqProofs only [go_sem, *]) | first | ((with_reducible refine enter_pu (c1) ?_ ?_ ?_); (· rfl); (· rfl); try simp -implicitDefEqProofs only [go_sem, *]) | ((with_reducible refine enter_pu (c2) ?_ ?_ ?_); (· rfl); (· rfl); try simp -implicitDefEqProofs only [go_sem, *])))
    all_goals exact fin_pu rfl rfl
  · rw [h] at c1
    simp -implicitDefEqProofs only [go_sem, Tryz.f48]
    (repeat' (first | ((with_reducible first | refine gon ?_ ?_ | refine gos ?_ ?_ | refine cdn ?_ ?_ | refine cds ?_ ?_ | refine gpn ?_ ?_ | refine gps ?_ ?_) <;> intro h <;> (try simp only [dt, df, gi, gt] at h) <;> try simp -implicitDefEqProofs only [go_sem, *]) | ((with_reducible refine And.intro ?_ ?_); (· first | omega | (simp only [List.length_take]; omega)); try simp -implicitDefEqProofs only [go_sem, *]) | first | ((with_reducible refine enter_pu (c1) ?_ ?_ ?_); (· rfl); (· rfl); try simp -implicitDefEqProofs only [go_sem, *]) | ((with_reducible refine enter_pu (c2) ?_ ?_ ?_); (· rfl); (· rfl); try simp -implicitDefEqProofs only [go_sem, *])))
    all_goals exact fin_pu rfl rfl
theorem empty_eq {p : Pg} (h : p.rg) (hl : 0 ≤ p.lsn ∧ p.lsn ≤ 150) : (p.ok && allZero p.vals) = emptyB p := by
  unfold Pg.ok allZero emptyB isIn Pg.good
  have h1 := h.own
  have h2 := h.len
  rw [Bool.eq_iff_iff]
  simp only [Bool.and_eq_true, Bool.or_eq_true, Bool.not_eq_true', decide_eq_true_eq, allFrom_iff, ← Bool.not_eq_true, anyFrom_iff, bne_iff_ne, beq_iff_eq, isIn]
  constructor
  · rintro ⟨-, h3⟩ k hk hk2
    exact Classical.byContradiction fun hc => h3 ⟨k, hk, hk2, hc⟩
  · intro h3
    refine ⟨⟨⟨⟨hl, h1⟩, h2⟩, fun k hk hk2 => ?_⟩, ?_⟩
    · have h4 := h3 k hk hk2
      exact ⟨by omega, .inr h4⟩
    · rintro ⟨k, hk, hk2, hn⟩
      exact hn (h3 k hk hk2)
theorem IndexFunc_at (S : Store) (l : List Int) (g : FuncId) (caps : List AV) (pred : Int → Bool) (hb : l.length < 4611686018427387904) (hg : ∀ k : Nat, k < l.length → AFn1 Tryz.prog g (I (at' l (k : Int)) :: caps) S (Bo (pred (at' l (k : Int)))) S []) :
    AFn1 Tryz.prog 88 [ints l, .clo g caps] S (I (firstIdx (fun k => pred (at' l k)) 0 l.length)) S [] := by
  refine afn1_of Tryz.func88 rfl rfl ?_
  simp -implicitDefEqProofs only [go_sem, Tryz.f88]
  refine cp_loop (fun i : Nat => ⟨(ints l :: .clo g caps :: .any :: .any :: I 0 :: .any :: .any :: I (l.length : Int) :: I (i : Int) :: .any :: .any :: .any :: .any :: .any :: .any :: .any :: .any :: .any :: .any :: []), S, []⟩) (fun i => i ≤ l.length ∧ firstIdx (fun k => pred (at' l k)) i l.length = firstIdx (fun k => pred (at' l k)) 0 l.length) (fun i => l.length - i) 0 ?_ ?_ ?_
  · simp
  · refine wk_tm ?_; repeat (first | exact WL.nil | (with_reducible refine WL.any _ _ _ ?_) | (with_reducible refine WL.same _ _ _ ?_) | (refine WL.eq _ _ _ _ rfl ?_))
  · rintro i ⟨hi, hgi⟩
    have hb : i < 4611686018427387904 := by omega
    by_cases hil : i < l.length
    · have hil' : (i : Int) < (l.length : Int) := by omega
      have hg' := hg i hil
      rw [firstIdx_lt hil] at hgi
      rcases hp : pred (at' l (i : Int)) with _ | _
      · rw [hp] at hg' hgi
        simp -implicitDefEqProofs only [go_sem, hil', hil]
        refine enter_at0 hg' ?_
        simp -implicitDefEqProofs only [go_sem, hb]
        exact ⟨i + 1, ⟨by omega, by simpa using hgi⟩, by omega, by refine wk_tm ?_; repeat (first | exact WL.nil | (with_reducible refine WL.any _ _ _ ?_) | (with_reducible refine WL.same _ _ _ ?_) | (refine WL.eq _ _ _ _ rfl ?_))⟩
      · rw [hp] at hg' hgi
        simp -implicitDefEqProofs only [go_sem, hil', hil]
        refine enter_at0 hg' ?_
        simp -implicitDefEqProofs only [go_sem, hb]
        refine fin_same ⟨?_, rfl, rfl⟩
        rw [← hgi]
        rfl
    · have hil' : ¬ (i : Int) < (l.length : Int) := by omega
      rw [firstIdx_ge hil] at hgi
      simp -implicitDefEqProofs only [go_sem, hil', hil]
      refine fin_same ⟨?_, rfl, rfl⟩
      rw [← hgi]
theorem ContainsFunc_at (S : Store) (l : List Int) (g : FuncId) (caps : List AV) (pred : Int → Bool) (hb : l.length < 4611686018427387904) (hg : ∀ k : Nat, k < l.length → AFn1 Tryz.prog g (I (at' l (k : Int)) :: caps) S (Bo (pred (at' l (k : Int)))) S []) :
    AFn1 Tryz.prog 50 [ints l, .clo g caps] S (Bo (anyFrom (fun k => pred (at' l k)) 0 l.length)) S [] := by
  have c1 := IndexFunc_at S l g caps pred hb hg
  refine afn1_of Tryz.func50 rfl rfl ?_
  simp -implicitDefEqProofs only [go_sem, Tryz.f50]
  refine enter_at0 c1 ?_
  simp -implicitDefEqProofs only [go_sem, true_and]
  refine fin_same ⟨?_, rfl, rfl⟩
  rw [← firstIdx_any]
end
section
theorem ty_pe : tiOf Tryz.prog 53 = some ⟨false, [.pointer none], 8, .other⟩ := by kernel_rfl
theorem ro_cells {xs : List D} : (AV.ro xs).cells = [AV.ro xs] := rfl
attribute [local go_sem] slt_r slt_I slt_p ty_pe ro_cells
def tkB (l : List Rc) (page n : Int) : Bool := (at' l (n - 1)).kind == 2 && (at' l (n - 1)).page == page && (at' l (n - 1)).new != 0
theorem fin_two {p : Pg} {xs : List D} {b b' : Bool} {T : Store} (h : b = b') : Fin 2 (.prim (.bool b)) (some ⟨1, [.ro xs]⟩ :: some ⟨3, [pA p]⟩ :: T) [] (fun r' S' mv => r' = Bo b' ∧ S' = [some ⟨1, [.ro xs]⟩, some ⟨3, [pA p]⟩] ∧ mv = []) :=
  fin_move [0, 1] [] (by simp) rfl (by decide) (keep2 rfl rfl (.cons _ _ _ _ (.of _ _ (.same _ rfl)) .nil) (.cons _ _ _ _ (.agg _ _ (a2_same rfl)) .nil)) (hm2 rfl) (.of _ _ (.of _ _ (.same _ rfl))) ⟨by rw [h], rfl, rfl⟩
theorem took_at (e : Eng) (p : Pg) (page n : Int) (hn : 1 ≤ n ∧ n ≤ e.log.length) (hl : e.log.length ≤ 1000) :
    AFn1 Tryz.prog 47 [I n, .ref 0 1 0 0, .ro [iD page]] [some ⟨1, [.ro (cells e)]⟩, some ⟨3, [pA p]⟩] (Bo (tkB e.log page n)) [some ⟨1, [.ro (cells e)]⟩, some ⟨3, [pA p]⟩] [] := by
  have hk : n - 1 < (e.log.length : Int) := by omega
  have hk0 : 0 ≤ n - 1 := by omega
  have hw : IntKind.i64.wrap (n - 1) = n - 1 := wrap_ok (by omega) (by omega)
  refine afn1_of Tryz.func47 rfl rfl ?_
  unfold cells
  simp -implicitDefEqProofs only [go_sem, Tryz.f47, hw, hk, hk0]
  (repeat' (first | ((with_reducible first | refine gon ?_ ?_ | refine gos ?_ ?_ | refine cdn ?_ ?_ | refine cds ?_ ?_ | refine gpn ?_ ?_ | refine gps ?_ ?_) <;> intro h <;> (try simp only [dt, df, gi, gt] at h) <;> try simp -implicitDefEqProofs only [go_sem, *]) | ((with_reducible refine And.intro ?_ ?_); (· first | omega | (simp only [List.length_take]; omega)); try simp -implicitDefEqProofs only [go_sem, *]) | fail))
  all_goals exact fin_two (by unfold tkB; simp [*])
end
section
attribute [local go_sem] slt_r slt_I slt_p ty_pe ro_cells cells yieldR_idx'
section
variable {P : Program}
def stepG (P : Program) (g : Option Bool) (op : Op) (d : Tmp) (tm : List AV) (S : Store) (mv : List Nat) (K : St → Prop) : Prop := match g with
  | none => False
  | some true => afterR P (opR (tiOf P) tm S op) (some d) ⟨tm, S, mv⟩ K
  | some false => K ⟨tm.set d (.tup []), S, mv⟩
theorem stepE_g {ops : Array Oper} {d : Tmp} {op : Op} {ty : TypeId} {ps : String} {af : Array Edge} {j : Nat} {wn : Bool} {tm : List AV} {S : Store} {mv : List Nat} {K : St → Prop} :
    stepE P ops (some ⟨some d, op, ty, ps, af, some (j, wn)⟩) ⟨tm, S, mv⟩ K = stepG P (gdJ ops[j]? tm wn) op d tm S mv K := by
  simp only [stepE, stepG, stepP]
  rfl
theorem stepG_t {op : Op} {d : Tmp} {tm : List AV} {S : Store} {mv : List Nat} {K : St → Prop} : stepG P (some true) op d tm S mv K = afterR P (opR (tiOf P) tm S op) (some d) ⟨tm, S, mv⟩ K := rfl
theorem stepG_f {op : Op} {d : Tmp} {tm : List AV} {S : Store} {mv : List Nat} {K : St → Prop} : stepG P (some false) op d tm S mv K = K ⟨tm.set d (.tup []), S, mv⟩ := rfl
theorem gd_J {ops : Array Oper} {d : Option Tmp} {op : Op} {ty : TypeId} {ps : String} {af : Array Edge} {j : Nat} {wn : Bool} {tm : List AV} : gd ops tm ⟨d, op, ty, ps, af, some (j, wn)⟩ = gdJ ops[j]? tm wn := rfl
variable {ops : Array Oper} {Inv : Store → Prop}
theorem expG_getT {K : St → Prop} {f : Nat} {listed : Array Bool} {tm : List AV} {S : Store} {mv : List Nat} {op : Op} {ty : TypeId} {ps : String} {af : Array Edge} {j : Nat} {wn : Bool} {d : Tmp} (i : Nat) (v : AV) (hi : ops[i]? = some ⟨some d, op, ty, ps, af, some (j, wn)⟩) (hg : gdJ ops[j]? tm wn = some true) (hf : Region.free .any ops listed i = true)
    (hr : (Region.ready .any ops listed).contains i = true) (hS : Inv S) (hy : ∀ S, Inv S → yieldR (opR (tiOf P) tm S op) v) (h : expG P ops Inv f (listed.setIfInBounds i true) ⟨tm.set d v, S, mv⟩ K) : expG P ops Inv (f + 1) listed ⟨tm, S, mv⟩ K := by
  refine expG_take i _ v d hi rfl hf hr hS (.inl ⟨by rw [gd_J]; exact hg, fun S hS => ?_⟩) h
  have := hy S hS
  unfold yieldR at this
  split at this
  · rename_i φ u hr
    exact ⟨φ, by rw [hr, this.2], this.1⟩
  · exact this.elim
theorem expG_skip {K : St → Prop} {f : Nat} {listed : Array Bool} {tm : List AV} {S : Store} {mv : List Nat} {op : Op} {ty : TypeId} {ps : String} {af : Array Edge} {j : Nat} {wn : Bool} {d : Tmp} (i : Nat) (hi : ops[i]? = some ⟨some d, op, ty, ps, af, some (j, wn)⟩) (hg : gdJ ops[j]? tm wn = some false) (hf : Region.free .any ops listed i = true)
    (hr : (Region.ready .any ops listed).contains i = true) (hS : Inv S) (h : expG P ops Inv f (listed.setIfInBounds i true) ⟨tm.set d (.tup []), S, mv⟩ K) : expG P ops Inv (f + 1) listed ⟨tm, S, mv⟩ K :=
  expG_take i _ _ d hi rfl hf hr hS (.inr ⟨by rw [gd_J]; exact hg, rfl⟩) h
end
attribute [local go_sem] stepE_g stepG_t stepG_f
def ldH (e : Eng) (tx page : Int) (vals : List Int) : Bool := (at' e.mem page).owner != 0 && emptyB (at' e.mem page) && valsOk vals && anyFrom (fun j => tkB e.log page (at' ((chain e.log (lastN e.log tx)).map fun n : Nat => (n : Int)) j)) 0 (chain e.log (lastN e.log tx)).length
theorem loadH_fn (e : Eng) (tx : Int) (k : Nat) (vals : List Int) (hk : k < 5) (hi : Inv e) (hv : vals.length < 4611686018427387904) :
    Fn1 Tryz.prog 46 [.ro (cells e), .ro [iD (k : Int)], .ro [.sl 1 (vals.map iD)], .ro [iD tx]] (Bo (ldH e tx k vals)) := by
  have hlen := hi.len
  have hm5 := hi.mem.len
  have hrg := hi.mem.rg k hk
  have hml := hi.ml k hk
  have c1 := PageEmptyI_fn (at' e.mem (k : Int)) (by have := hrg.len; omega)
  rw [empty_eq hrg (by omega)] at c1
  have c2 := valsOk_fn vals hv
  have c3 := chain_fn lastC e.log tx hi.wf
  have hcl := chain_len e.log (lastN e.log tx)
  have hll := lastN_le e.log tx
  have hk5 : (k : Int) < 5 := by omega
  have hke : (k : Int) < (e.mem.length : Int) := by omega
  have hch : ∀ x ∈ (chain e.log (lastN e.log tx)).map (fun n : Nat => (n : Int)), 1 ≤ x ∧ x ≤ (e.log.length : Int) := fun x hx => by
    obtain ⟨n, hn, rfl⟩ := List.mem_map.1 hx
    obtain ⟨b, rfl, hb⟩ := chain_memP hi.wf _ hll hn
    omega
  have c4 := ContainsFunc_at [some ⟨1, [.ro (cells e)]⟩, some ⟨3, [pA (at' e.mem (k : Int))]⟩] ((chain e.log (lastN e.log tx)).map fun n : Nat => (n : Int)) 47 [.ref 0 1 0 0, .ro [iD (k : Int)]] (tkB e.log (k : Int)) (by rw [List.length_map]; omega)
    (fun j hj => took_at e _ (k : Int) _ (hch _ (at_mem _ j hj)) (by omega))
  rw [List.length_map] at c4
  have hkm : k < e.mem.length := by omega
  have fin : ∀ {b : Bool} {S : Store}, b = ldH e tx k vals → Fin 0 (.prim (.bool b)) S [] (fun r S' mv => (r = Bo (ldH e tx k vals) ∧ S' = []) ∧ mv = []) := fun h => fin_pu (by rw [h]) rfl
  unfold ldH at fin ⊢
  generalize anyFrom (fun j => tkB e.log (k : Int) (at' ((chain e.log (lastN e.log tx)).map fun n : Nat => (n : Int)) j)) 0 (chain e.log (lastN e.log tx)).length = b4 at c4 fin ⊢
  refine fn1_of Tryz.func46 rfl rfl ?_
  simp -implicitDefEqProofs only [go_sem, Tryz.f46]
  refine ⟨rfl, ?_⟩
  refine cp_drawG (id := 1) 9 (fun S => getO S 0 = some ⟨1, [.ro (cells e)]⟩) mixed rfl ?_
  ((refine expG_get 0 (.ro (cells e)) rfl ?_ ?_ (by repeat (first | rfl | refine And.intro rfl ?_)) ?_ ?_); (· decide +kernel); (· decide +kernel); (· (intro S hS0; simp -implicitDefEqProofs only [go_sem, hS0, *])); try simp -implicitDefEqProofs only [go_sem, List.set_cons_succ, List.set_cons_zero])
  ((refine expG_get 1 (.ro (cells e)) rfl ?_ ?_ (by repeat (first | rfl | refine And.intro rfl ?_)) ?_ ?_); (· decide +kernel); (· decide +kernel); (· (intro S hS0; simp -implicitDefEqProofs only [go_sem, hS0, *])); try simp -implicitDefEqProofs only [go_sem, List.set_cons_succ, List.set_cons_zero])
  ((refine expG_get 2 (.ro ((cells e).drop 1)) rfl ?_ ?_ (by repeat (first | rfl | refine And.intro rfl ?_)) ?_ ?_); (· decide +kernel); (· decide +kernel); (· (intro S hS0; simp -implicitDefEqProofs only [go_sem, hS0, *])); try simp -implicitDefEqProofs only [go_sem, List.set_cons_succ, List.set_cons_zero])
  ((refine expG_get 3 (pgs e.mem) rfl ?_ ?_ (by repeat (first | rfl | refine And.intro rfl ?_)) ?_ ?_); (· decide +kernel); (· decide +kernel); (· (intro S hS0; simp -implicitDefEqProofs only [go_sem, hS0, *])); try simp -implicitDefEqProofs only [go_sem, List.set_cons_succ, List.set_cons_zero])
  ((refine expG_get 4 (I (k : Int)) rfl ?_ ?_ (by repeat (first | rfl | refine And.intro rfl ?_)) ?_ ?_); (· decide +kernel); (· decide +kernel); (· (intro S hS0; simp -implicitDefEqProofs only [go_sem, hS0, *])); try simp -implicitDefEqProofs only [go_sem, List.set_cons_succ, List.set_cons_zero])
  ((refine expG_get 5 (.ro [iD (at' e.mem (k : Int)).lsn, iD (at' e.mem (k : Int)).owner, .sl 1 ((at' e.mem (k : Int)).vals.map iD)]) rfl ?_ ?_ (by repeat (first | rfl | refine And.intro rfl ?_)) ?_ ?_); (· decide +kernel); (· decide +kernel); (· (intro S hS0; simp -implicitDefEqProofs only [go_sem, hS0, *])); try simp -implicitDefEqProofs only [go_sem, List.set_cons_succ, List.set_cons_zero])
  ((refine expG_get 6 (pA (at' e.mem (k : Int))) rfl ?_ ?_ (by repeat (first | rfl | refine And.intro rfl ?_)) ?_ ?_); (· decide +kernel); (· decide +kernel); (· (intro S hS0; simp -implicitDefEqProofs only [go_sem, hS0, *])); try simp -implicitDefEqProofs only [go_sem, List.set_cons_succ, List.set_cons_zero])
  (repeat' (first | ((with_reducible first | refine gon ?_ ?_ | refine gos ?_ ?_ | refine cdn ?_ ?_ | refine cds ?_ ?_ | refine gpn ?_ ?_ | refine gps ?_ ?_) <;> intro h <;> (try simp only [dt, df, gi, gt] at h) <;> try simp -implicitDefEqProofs only [go_sem, *]) | ((with_reducible refine And.intro ?_ ?_); (· first | omega | (simp only [List.length_take]; omega)); try simp -implicitDefEqProofs only [go_sem, *]) | first | ((with_reducible refine expG_one 7 ?_ ?_); (· decide +kernel); try simp -implicitDefEqProofs only [go_sem, *]) | ((with_reducible refine expG_one 8 ?_ ?_); (· decide +kernel); try simp -implicitDefEqProofs only [go_sem, *]) | ((with_reducible refine expG_end ?_ ?_); (· decide +kernel); try simp -implicitDefEqProofs only [go_sem, *])))
  refine cp_drawG (id := 3) 22 (fun S => getO S 0 = some ⟨1, [.ro (cells e)]⟩ ∧ getO S 1 = some ⟨3, [pA (at' e.mem (k : Int))]⟩) mixed rfl ?_
  rcases h1 : (at' e.mem (k : Int)).owner != 0 with _ | _
  · (repeat' (first | ((with_reducible first | refine gon ?_ ?_ | refine gos ?_ ?_ | refine cdn ?_ ?_ | refine cds ?_ ?_ | refine gpn ?_ ?_ | refine gps ?_ ?_) <;> intro h <;> (try simp only [dt, df, gi, gt] at h) <;> try simp -implicitDefEqProofs only [go_sem, *]) | ((with_reducible refine And.intro ?_ ?_); (· first | omega | (simp only [List.length_take]; omega)); try simp -implicitDefEqProofs only [go_sem, *]) | first | ((with_reducible refine expG_one 0 ?_ ?_); (· decide +kernel); try simp -implicitDefEqProofs only [go_sem, *]) | ((with_reducible refine expG_one 1 ?_ ?_); (· decide +kernel); try simp -implicitDefEqProofs only [go_sem, *]) | ((with_reducible refine expG_one 2 ?_ ?_); (· decide +kernel); try simp -implicitDefEqProofs only [go_sem, *]) | ((with_reducible refine expG_one 3 ?_ ?_); (· decide +kernel); try simp -implicitDefEqProofs only [go_sem, *]) | fail))
    ((refine expG_skip 4 rfl rfl ?_ ?_ (by repeat (first | rfl | refine And.intro rfl ?_)) ?_); (· decide +kernel); (· decide +kernel); try simp -implicitDefEqProofs only [go_sem, List.set_cons_succ, List.set_cons_zero])
    (repeat' (first | ((with_reducible first | refine gon ?_ ?_ | refine gos ?_ ?_ | refine cdn ?_ ?_ | refine cds ?_ ?_ | refine gpn ?_ ?_ | refine gps ?_ ?_) <;> intro h <;> (try simp only [dt, df, gi, gt] at h) <;> try simp -implicitDefEqProofs only [go_sem, *]) | ((with_reducible refine And.intro ?_ ?_); (· first | omega | (simp only [List.length_take]; omega)); try simp -implicitDefEqProofs only [go_sem, *]) | first | ((with_reducible refine expG_one 5 ?_ ?_); (· decide +kernel); try simp -implicitDefEqProofs only [go_sem, *]) | ((with_reducible refine expG_one 6 ?_ ?_); (· decide +kernel); try simp -implicitDefEqProofs only [go_sem, *]) | ((with_reducible refine expG_one 7 ?_ ?_); (· decide +kernel); try simp -implicitDefEqProofs only [go_sem, *]) | ((with_reducible refine expG_one 8 ?_ ?_); (· decide +kernel); try simp -implicitDefEqProofs only [go_sem, *]) | ((with_reducible refine expG_one 9 ?_ ?_); (· decide +kernel); try simp -implicitDefEqProofs only [go_sem, *]) | ((with_reducible refine expG_one 10 ?_ ?_); (· decide +kernel); try simp -implicitDefEqProofs only [go_sem, *]) | ((with_reducible refine expG_one 11 ?_ ?_); (· decide +kernel); try simp -implicitDefEqProofs only [go_sem, *]) | fail))
    ((refine expG_skip 12 rfl rfl ?_ ?_ (by repeat (first | rfl | refine And.intro rfl ?_)) ?_); (· decide +kernel); (· decide +kernel); try simp -implicitDefEqProofs only [go_sem, List.set_cons_succ, List.set_cons_zero])
    ((refine expG_skip 13 rfl rfl ?_ ?_ (by repeat (first | rfl | refine And.intro rfl ?_)) ?_); (· decide +kernel); (· decide +kernel); try simp -implicitDefEqProofs only [go_sem, List.set_cons_succ, List.set_cons_zero])
    ((refine expG_skip 14 rfl rfl ?_ ?_ (by repeat (first | rfl | refine And.intro rfl ?_)) ?_); (· decide +kernel); (· decide +kernel); try simp -implicitDefEqProofs only [go_sem, List.set_cons_succ, List.set_cons_zero])
    ((refine expG_skip 15 rfl rfl ?_ ?_ (by repeat (first | rfl | refine And.intro rfl ?_)) ?_); (· decide +kernel); (· decide +kernel); try simp -implicitDefEqProofs only [go_sem, List.set_cons_succ, List.set_cons_zero])
    ((refine expG_skip 16 rfl rfl ?_ ?_ (by repeat (first | rfl | refine And.intro rfl ?_)) ?_); (· decide +kernel); (· decide +kernel); try simp -implicitDefEqProofs only [go_sem, List.set_cons_succ, List.set_cons_zero])
    ((refine expG_skip 18 rfl rfl ?_ ?_ (by repeat (first | rfl | refine And.intro rfl ?_)) ?_); (· decide +kernel); (· decide +kernel); try simp -implicitDefEqProofs only [go_sem, List.set_cons_succ, List.set_cons_zero])
    (repeat' (first | ((with_reducible first | refine gon ?_ ?_ | refine gos ?_ ?_ | refine cdn ?_ ?_ | refine cds ?_ ?_ | refine gpn ?_ ?_ | refine gps ?_ ?_) <;> intro h <;> (try simp only [dt, df, gi, gt] at h) <;> try simp -implicitDefEqProofs only [go_sem, *]) | ((with_reducible refine And.intro ?_ ?_); (· first | omega | (simp only [List.length_take]; omega)); try simp -implicitDefEqProofs only [go_sem, *]) | first | ((with_reducible refine expG_one 17 ?_ ?_); (· decide +kernel); try simp -implicitDefEqProofs only [go_sem, *]) | ((with_reducible refine expG_one 19 ?_ ?_); (· decide +kernel); try simp -implicitDefEqProofs only [go_sem, *]) | ((with_reducible refine expG_one 20 ?_ ?_); (· decide +kernel); try simp -implicitDefEqProofs only [go_sem, *]) | ((with_reducible refine expG_one 21 ?_ ?_); (· decide +kernel); try simp -implicitDefEqProofs only [go_sem, *]) | ((with_reducible refine expG_end ?_ ?_); (· decide +kernel); try simp -implicitDefEqProofs only [go_sem, *])))
    all_goals exact fin_pu rfl rfl
  rcases h2 : emptyB (at' e.mem (k : Int)) with _ | _
  · rw [h2] at c1
    (repeat' (first | ((with_reducible first | refine gon ?_ ?_ | refine gos ?_ ?_ | refine cdn ?_ ?_ | refine cds ?_ ?_ | refine gpn ?_ ?_ | refine gps ?_ ?_) <;> intro h <;> (try simp only [dt, df, gi, gt] at h) <;> try simp -implicitDefEqProofs only [go_sem, *]) | ((with_reducible refine And.intro ?_ ?_); (· first | omega | (simp only [List.length_take]; omega)); try simp -implicitDefEqProofs only [go_sem, *]) | first | ((with_reducible refine enter_pu (c1) ?_ ?_ ?_); (· rfl); (· rfl); try simp -implicitDefEqProofs only [go_sem, *]) | ((with_reducible refine expG_one 0 ?_ ?_); (· decide +kernel); try simp -implicitDefEqProofs only [go_sem, *]) | ((with_reducible refine expG_one 1 ?_ ?_); (· decide +kernel); try simp -implicitDefEqProofs only [go_sem, *]) | ((with_reducible refine expG_one 2 ?_ ?_); (· decide +kernel); try simp -implicitDefEqProofs only [go_sem, *]) | ((with_reducible refine expG_one 3 ?_ ?_); (· decide +kernel); try simp -implicitDefEqProofs only [go_sem, *]) | ((with_reducible refine expG_one 4 ?_ ?_); (· decide +kernel); try simp -implicitDefEqProofs only [go_sem, *]) | ((with_reducible refine expG_one 5 ?_ ?_); (· decide +kernel); try simp -implicitDefEqProofs only [go_sem, *]) | ((with_reducible refine expG_one 6 ?_ ?_); (· decide +kernel); try simp -implicitDefEqProofs only [go_sem, *]) | ((with_reducible refine expG_one 7 ?_ ?_); (· decide +kernel); try simp -implicitDefEqProofs only [go_sem, *]) | ((with_reducible refine expG_one 8 ?_ ?_); (· decide +kernel); try simp -implicitDefEqProofs only [go_sem, *]) | ((with_reducible refine expG_one 9 ?_ ?_); (· decide +kernel); try simp -implicitDefEqProofs only [go_sem, *]) | ((with_reducible refine expG_one 10 ?_ ?_); (· decide +kernel); try simp -implicitDefEqProofs only [go_sem, *]) | ((with_reducible refine expG_one 11 ?_ ?_); (· decide +kernel); try simp -implicitDefEqProofs only [go_sem, *]) | fail))
    ((refine expG_skip 12 rfl rfl ?_ ?_ (by repeat (first | rfl | refine And.intro rfl ?_)) ?_); (· decide +kernel); (· decide +kernel); try simp -implicitDefEqProofs only [go_sem, List.set_cons_succ, List.set_cons_zero])
    ((refine expG_skip 13 rfl rfl ?_ ?_ (by repeat (first | rfl | refine And.intro rfl ?_)) ?_); (· decide +kernel); (· decide +kernel); try simp -implicitDefEqProofs only [go_sem, List.set_cons_succ, List.set_cons_zero])
    ((refine expG_skip 14 rfl rfl ?_ ?_ (by repeat (first | rfl | refine And.intro rfl ?_)) ?_); (· decide +kernel); (· decide +kernel); try simp -implicitDefEqProofs only [go_sem, List.set_cons_succ, List.set_cons_zero])
    ((refine expG_skip 15 rfl rfl ?_ ?_ (by repeat (first | rfl | refine And.intro rfl ?_)) ?_); (· decide +kernel); (· decide +kernel); try simp -implicitDefEqProofs only [go_sem, List.set_cons_succ, List.set_cons_zero])
    ((refine expG_skip 16 rfl rfl ?_ ?_ (by repeat (first | rfl | refine And.intro rfl ?_)) ?_); (· decide +kernel); (· decide +kernel); try simp -implicitDefEqProofs only [go_sem, List.set_cons_succ, List.set_cons_zero])
    ((refine expG_skip 18 rfl rfl ?_ ?_ (by repeat (first | rfl | refine And.intro rfl ?_)) ?_); (· decide +kernel); (· decide +kernel); try simp -implicitDefEqProofs only [go_sem, List.set_cons_succ, List.set_cons_zero])
    (repeat' (first | ((with_reducible first | refine gon ?_ ?_ | refine gos ?_ ?_ | refine cdn ?_ ?_ | refine cds ?_ ?_ | refine gpn ?_ ?_ | refine gps ?_ ?_) <;> intro h <;> (try simp only [dt, df, gi, gt] at h) <;> try simp -implicitDefEqProofs only [go_sem, *]) | ((with_reducible refine And.intro ?_ ?_); (· first | omega | (simp only [List.length_take]; omega)); try simp -implicitDefEqProofs only [go_sem, *]) | first | ((with_reducible refine expG_one 17 ?_ ?_); (· decide +kernel); try simp -implicitDefEqProofs only [go_sem, *]) | ((with_reducible refine expG_one 19 ?_ ?_); (· decide +kernel); try simp -implicitDefEqProofs only [go_sem, *]) | ((with_reducible refine expG_one 20 ?_ ?_); (· decide +kernel); try simp -implicitDefEqProofs only [go_sem, *]) | ((with_reducible refine expG_one 21 ?_ ?_); (· decide +kernel); try simp -implicitDefEqProofs only [go_sem, *]) | ((with_reducible refine expG_end ?_ ?_); (· decide +kernel); try simp -implicitDefEqProofs only [go_sem, *])))
    all_goals exact fin_pu rfl rfl
  rcases h3 : valsOk vals with _ | _
  · rw [h2] at c1
    rw [h3] at c2
    (repeat' (first | ((with_reducible first | refine gon ?_ ?_ | refine gos ?_ ?_ | refine cdn ?_ ?_ | refine cds ?_ ?_ | refine gpn ?_ ?_ | refine gps ?_ ?_) <;> intro h <;> (try simp only [dt, df, gi, gt] at h) <;> try simp -implicitDefEqProofs only [go_sem, *]) | ((with_reducible refine And.intro ?_ ?_); (· first | omega | (simp only [List.length_take]; omega)); try simp -implicitDefEqProofs only [go_sem, *]) | first | ((with_reducible refine enter_pu (c1) ?_ ?_ ?_); (· rfl); (· rfl); try simp -implicitDefEqProofs only [go_sem, *]) | ((with_reducible refine enter_pu (c2) ?_ ?_ ?_); (· rfl); (· rfl); try simp -implicitDefEqProofs only [go_sem, *]) | ((with_reducible refine expG_one 0 ?_ ?_); (· decide +kernel); try simp -implicitDefEqProofs only [go_sem, *]) | ((with_reducible refine expG_one 1 ?_ ?_); (· decide +kernel); try simp -implicitDefEqProofs only [go_sem, *]) | ((with_reducible refine expG_one 2 ?_ ?_); (· decide +kernel); try simp -implicitDefEqProofs only [go_sem, *]) | ((with_reducible refine expG_one 3 ?_ ?_); (· decide +kernel); try simp -implicitDefEqProofs only [go_sem, *]) | ((with_reducible refine expG_one 4 ?_ ?_); (· decide +kernel); try simp -implicitDefEqProofs only [go_sem, *]) | ((with_reducible refine expG_one 5 ?_ ?_); (· decide +kernel); try simp -implicitDefEqProofs only [go_sem, *]) | ((with_reducible refine expG_one 6 ?_ ?_); (· decide +kernel); try simp -implicitDefEqProofs only [go_sem, *]) | ((with_reducible refine expG_one 7 ?_ ?_); (· decide +kernel); try simp -implicitDefEqProofs only [go_sem, *]) | ((with_reducible refine expG_one 8 ?_ ?_); (· decide +kernel); try simp -implicitDefEqProofs only [go_sem, *]) | ((with_reducible refine expG_one 9 ?_ ?_); (· decide +kernel); try simp -implicitDefEqProofs only [go_sem, *]) | ((with_reducible refine expG_one 10 ?_ ?_); (· decide +kernel); try simp -implicitDefEqProofs only [go_sem, *]) | ((with_reducible refine expG_one 11 ?_ ?_); (· decide +kernel); try simp -implicitDefEqProofs only [go_sem, *]) | fail))
    ((refine expG_skip 12 rfl rfl ?_ ?_ (by repeat (first | rfl | refine And.intro rfl ?_)) ?_); (· decide +kernel); (· decide +kernel); try simp -implicitDefEqProofs only [go_sem, List.set_cons_succ, List.set_cons_zero])
    ((refine expG_skip 13 rfl rfl ?_ ?_ (by repeat (first | rfl | refine And.intro rfl ?_)) ?_); (· decide +kernel); (· decide +kernel); try simp -implicitDefEqProofs only [go_sem, List.set_cons_succ, List.set_cons_zero])
    ((refine expG_skip 14 rfl rfl ?_ ?_ (by repeat (first | rfl | refine And.intro rfl ?_)) ?_); (· decide +kernel); (· decide +kernel); try simp -implicitDefEqProofs only [go_sem, List.set_cons_succ, List.set_cons_zero])
    ((refine expG_skip 15 rfl rfl ?_ ?_ (by repeat (first | rfl | refine And.intro rfl ?_)) ?_); (· decide +kernel); (· decide +kernel); try simp -implicitDefEqProofs only [go_sem, List.set_cons_succ, List.set_cons_zero])
    ((refine expG_skip 16 rfl rfl ?_ ?_ (by repeat (first | rfl | refine And.intro rfl ?_)) ?_); (· decide +kernel); (· decide +kernel); try simp -implicitDefEqProofs only [go_sem, List.set_cons_succ, List.set_cons_zero])
    ((refine expG_skip 18 rfl rfl ?_ ?_ (by repeat (first | rfl | refine And.intro rfl ?_)) ?_); (· decide +kernel); (· decide +kernel); try simp -implicitDefEqProofs only [go_sem, List.set_cons_succ, List.set_cons_zero])
    (repeat' (first | ((with_reducible first | refine gon ?_ ?_ | refine gos ?_ ?_ | refine cdn ?_ ?_ | refine cds ?_ ?_ | refine gpn ?_ ?_ | refine gps ?_ ?_) <;> intro h <;> (try simp only [dt, df, gi, gt] at h) <;> try simp -implicitDefEqProofs only [go_sem, *]) | ((with_reducible refine And.intro ?_ ?_); (· first | omega | (simp only [List.length_take]; omega)); try simp -implicitDefEqProofs only [go_sem, *]) | first | ((with_reducible refine expG_one 17 ?_ ?_); (· decide +kernel); try simp -implicitDefEqProofs only [go_sem, *]) | ((with_reducible refine expG_one 19 ?_ ?_); (· decide +kernel); try simp -implicitDefEqProofs only [go_sem, *]) | ((with_reducible refine expG_one 20 ?_ ?_); (· decide +kernel); try simp -implicitDefEqProofs only [go_sem, *]) | ((with_reducible refine expG_one 21 ?_ ?_); (· decide +kernel); try simp -implicitDefEqProofs only [go_sem, *]) | ((with_reducible refine expG_end ?_ ?_); (· decide +kernel); try simp -implicitDefEqProofs only [go_sem, *])))
    all_goals exact fin_pu rfl rfl
  · rw [h2] at c1
    rw [h3] at c2
    (repeat' (first | ((with_reducible first | refine gon ?_ ?_ | refine gos ?_ ?_ | refine cdn ?_ ?_ | refine cds ?_ ?_ | refine gpn ?_ ?_ | refine gps ?_ ?_) <;> intro h <;> (try simp only [dt, df, gi, gt] at h) <;> try simp -implicitDefEqProofs only [go_sem, *]) | ((with_reducible refine And.intro ?_ ?_); (· first | omega | (simp only [List.length_take]; omega)); try simp -implicitDefEqProofs only [go_sem, *]) | first | ((with_reducible refine enter_pu (c1) ?_ ?_ ?_); (· rfl); (· rfl); try simp -implicitDefEqProofs only [go_sem, *]) | ((with_reducible refine enter_pu (c2) ?_ ?_ ?_); (· rfl); (· rfl); try simp -implicitDefEqProofs only [go_sem, *]) | ((with_reducible refine expG_one 0 ?_ ?_); (· decide +kernel); try simp -implicitDefEqProofs only [go_sem, *]) | ((with_reducible refine expG_one 1 ?_ ?_); (· decide +kernel); try simp -implicitDefEqProofs only [go_sem, *]) | ((with_reducible refine expG_one 2 ?_ ?_); (· decide +kernel); try simp -implicitDefEqProofs only [go_sem, *]) | ((with_reducible refine expG_one 3 ?_ ?_); (· decide +kernel); try simp -implicitDefEqProofs only [go_sem, *]) | ((with_reducible refine expG_one 4 ?_ ?_); (· decide +kernel); try simp -implicitDefEqProofs only [go_sem, *]) | ((with_reducible refine expG_one 5 ?_ ?_); (· decide +kernel); try simp -implicitDefEqProofs only [go_sem, *]) | ((with_reducible refine expG_one 6 ?_ ?_); (· decide +kernel); try simp -implicitDefEqProofs only [go_sem, *]) | ((with_reducible refine expG_one 7 ?_ ?_); (· decide +kernel); try simp -implicitDefEqProofs only [go_sem, *]) | ((with_reducible refine expG_one 8 ?_ ?_); (· decide +kernel); try simp -implicitDefEqProofs only [go_sem, *]) | ((with_reducible refine expG_one 9 ?_ ?_); (· decide +kernel); try simp -implicitDefEqProofs only [go_sem, *]) | ((with_reducible refine expG_one 10 ?_ ?_); (· decide +kernel); try simp -implicitDefEqProofs only [go_sem, *]) | ((with_reducible refine expG_one 11 ?_ ?_); (· decide +kernel); try simp -implicitDefEqProofs only [go_sem, *]) | fail))
    ((refine expG_getT 12 (.ro (cells e)) rfl rfl ?_ ?_ (by repeat (first | rfl | refine And.intro rfl ?_)) ?_ ?_); (· decide +kernel); (· decide +kernel); (· (intro S hS0; simp -implicitDefEqProofs only [go_sem, hS0, *])); try simp -implicitDefEqProofs only [go_sem, List.set_cons_succ, List.set_cons_zero])
    ((refine expG_getT 13 (.ro (cells e)) rfl rfl ?_ ?_ (by repeat (first | rfl | refine And.intro rfl ?_)) ?_ ?_); (· decide +kernel); (· decide +kernel); (· (intro S hS0; simp -implicitDefEqProofs only [go_sem, hS0, *])); try simp -implicitDefEqProofs only [go_sem, List.set_cons_succ, List.set_cons_zero])
    ((refine expG_getT 14 (.ro ((cells e).drop 2)) rfl rfl ?_ ?_ (by repeat (first | rfl | refine And.intro rfl ?_)) ?_ ?_); (· decide +kernel); (· decide +kernel); (· (intro S hS0; simp -implicitDefEqProofs only [go_sem, hS0, *])); try simp -implicitDefEqProofs only [go_sem, List.set_cons_succ, List.set_cons_zero])
    ((refine expG_getT 15 (recs e.log) rfl rfl ?_ ?_ (by repeat (first | rfl | refine And.intro rfl ?_)) ?_ ?_); (· decide +kernel); (· decide +kernel); (· (intro S hS0; simp -implicitDefEqProofs only [go_sem, hS0, *])); try simp -implicitDefEqProofs only [go_sem, List.set_cons_succ, List.set_cons_zero])
    ((refine expG_getT 16 (I tx) rfl rfl ?_ ?_ (by repeat (first | rfl | refine And.intro rfl ?_)) ?_ ?_); (· decide +kernel); (· decide +kernel); (· (intro S hS0; simp -implicitDefEqProofs only [go_sem, hS0, *])); try simp -implicitDefEqProofs only [go_sem, List.set_cons_succ, List.set_cons_zero])
    ((refine expG_getT 18 (.clo 47 [.ref 0 1 0 0, .ro [iD (k : Int)]]) rfl rfl ?_ ?_ (by repeat (first | rfl | refine And.intro rfl ?_)) ?_ ?_); (· decide +kernel); (· decide +kernel); (· (intro S hS0; simp -implicitDefEqProofs only [go_sem, hS0, *])); try simp -implicitDefEqProofs only [go_sem, List.set_cons_succ, List.set_cons_zero])
    (repeat' (first | ((with_reducible first | refine gon ?_ ?_ | refine gos ?_ ?_ | refine cdn ?_ ?_ | refine cds ?_ ?_ | refine gpn ?_ ?_ | refine gps ?_ ?_) <;> intro h <;> (try simp only [dt, df, gi, gt] at h) <;> try simp -implicitDefEqProofs only [go_sem, *]) | ((with_reducible refine And.intro ?_ ?_); (· first | omega | (simp only [List.length_take]; omega)); try simp -implicitDefEqProofs only [go_sem, *]) | first | ((with_reducible refine enter_pu (c3) ?_ ?_ ?_); (· rfl); (· rfl); try simp -implicitDefEqProofs only [go_sem, *]) | ((with_reducible refine expG_one 17 ?_ ?_); (· decide +kernel); try simp -implicitDefEqProofs only [go_sem, *]) | ((with_reducible refine expG_one 19 ?_ ?_); (· decide +kernel); try simp -implicitDefEqProofs only [go_sem, *]) | ((with_reducible refine expG_one 20 ?_ ?_); (· decide +kernel); try simp -implicitDefEqProofs only [go_sem, *]) | ((with_reducible refine expG_one 21 ?_ ?_); (· decide +kernel); try simp -implicitDefEqProofs only [go_sem, *]) | ((with_reducible refine expG_end ?_ ?_); (· decide +kernel); try simp -implicitDefEqProofs only [go_sem, *]) | (refine enter_at0 c4 ?_; simp -implicitDefEqProofs only [go_sem, *])))
    all_goals exact fin_pu (by simp) rfl
theorem ldH_eq (e : Eng) (tx : Int) (k : Nat) (vals : List Int) (hi : Inv e) : ldH e tx k vals = (decide (vals.length = 3) && decide ((at' e.mem (k : Int)).owner ≠ 0) && emptyB (at' e.mem (k : Int)) && tookB e.log tx (k : Int) && valsB vals) := by
  have hll := lastN_le e.log tx
  have ht : anyFrom (fun j => tkB e.log (k : Int) (at' ((chain e.log (lastN e.log tx)).map fun n : Nat => (n : Int)) j)) 0 (chain e.log (lastN e.log tx)).length = tookB e.log tx (k : Int) := by
    rw [Bool.eq_iff_iff, anyFrom_iff]
    unfold tookB tkB
    rw [List.any_eq_true]
    constructor
    · rintro ⟨j, _, hj, h⟩
      have hm := at_mem ((chain e.log (lastN e.log tx)).map fun n : Nat => (n : Int)) j (by rw [List.length_map]; exact hj)
      obtain ⟨n, hn, he⟩ := List.mem_map.1 hm
      refine ⟨n, hn, ?_⟩
      rw [← he] at h
      obtain ⟨b, rfl, hb⟩ := chain_memP hi.wf _ hll hn
      simp only [Bool.and_eq_true, beq_iff_eq, bne_iff_ne, decide_eq_true_eq] at h ⊢
      obtain ⟨⟨h1, h2⟩, h3⟩ := h
      refine ⟨⟨h1, h2⟩, ?_⟩
      have e1 : ((b + 1 : Nat) : Int) - 1 = (b : Int) := by omega
      rw [e1] at h1 h3 ⊢
      have h4 := (Rc.ok_new (hi.wf.rok b (by omega)) (by unfold chg; rw [h1]; rfl)).1
      omega
    · rintro ⟨n, hn, h⟩
      obtain ⟨j, hj, he⟩ := List.mem_iff_getElem.1 hn
      refine ⟨j, Nat.zero_le _, hj, ?_⟩
      have : at' ((chain e.log (lastN e.log tx)).map fun n : Nat => (n : Int)) (j : Int) = (n : Int) := by simp [at', List.getD, hj, he]
      rw [this]
      simp only [Bool.and_eq_true, beq_iff_eq, bne_iff_ne, decide_eq_true_eq] at h ⊢
      exact ⟨h.1, by omega⟩
  unfold ldH
  rw [ht]
  unfold valsOk valsB
  rw [Bool.eq_iff_iff]
  simp only [Bool.and_eq_true, Bool.not_eq_true', decide_eq_true_eq, allFrom_iff, ← Bool.not_eq_true, anyFrom_iff, bne_iff_ne]
  constructor
  · rintro ⟨⟨⟨h1, h2⟩, h3, h4⟩, h5⟩
    exact ⟨⟨⟨⟨h3, h1⟩, h2⟩, h5⟩, fun j hj hj2 => Classical.byContradiction fun hc => h4 ⟨j, hj, hj2, by simpa using hc⟩⟩
  · rintro ⟨⟨⟨⟨h3, h1⟩, h2⟩, h5⟩, h4⟩
    exact ⟨⟨⟨h1, h2⟩, h3, fun ⟨j, hj, hj2, hc⟩ => by simp [h4 j hj hj2] at hc⟩, h5⟩
end
section
theorem yield_loadX {α : Type} [Inhabited α] {zs : List Value} {n : Nat} {sh : Sh} {z0 : Nat} {f : α → AV} {l : List α} {z k sub : Nat} {v : AV} : yieldR (loadM ⟨true, zs, n, sh⟩ z0 f l z k sub) v = ((z0 = z ∧ k < l.length ∧ sub + zs.length ≤ z) ∧ .agg (((f (at' l (k : Int))).cells.drop sub).take zs.length) = v) := by
  unfold loadM
  rw [loadO_agg]
  unfold yieldR
  simp only [List.length_map]
  refine propext ⟨fun ⟨h, k⟩ => ⟨h, by rw [getM h.2.1] at k; exact k⟩, fun ⟨h, k⟩ => ⟨h, by rw [getM h.2.1]; exact k⟩⟩
theorem yield_loadY {α : Type} [Inhabited α] {zs : List Value} {n : Nat} {sh : Sh} {z0 : Nat} {f : α → AV} {l : List α} {z k sub : Nat} {v : AV} : yieldR (loadM ⟨false, zs, n, sh⟩ z0 f l z k sub) v = ((z0 = z ∧ k < l.length ∧ sub < z) ∧ (f (at' l (k : Int))).cells.getD sub .any = v) := by
  unfold loadM
  rw [loadO_one]
  unfold yieldR
  simp only [List.length_map]
  refine propext ⟨fun ⟨h, k⟩ => ⟨h, by rw [getM h.2.1] at k; exact k⟩, fun ⟨h, k⟩ => ⟨h, by rw [getM h.2.1]; exact k⟩⟩
attribute [local go_sem] slt_r slt_I slt_p yield_loadX yield_loadY sD_len List.append_nil
theorem fin_mem14 {a b : Int} {vals : List Int} {n p : Nat} {e : Eng} {r : AV} {mv : List Nat} {Q : AV → Store → List Nat → Prop} (hp : p < 5) (hd : e.disk.length = 5) (hm : e.mem.length = 5) (hn : n = vals.length) (hr : r = .tup [] ∨ ∃ n, r = I n) (hmv : mv = [] ∨ mv = [12])
    (h : Q r (sD ⟨e.disk, e.mem.set p ⟨a, b, vals⟩, e.log, e.safe, e.down⟩) M13) :
    Fin 14 r (oD 1 e.disk :: vO (at' e.disk 0) :: vO (at' e.disk 1) :: vO (at' e.disk 2) :: vO (at' e.disk 3) :: vO (at' e.disk 4) :: some ⟨3, ((dps 7 e.mem).map dA).set p (.agg [I a, I b, .own 14 1 0 n])⟩ ::
      vO (at' e.mem 0) :: vO (at' e.mem 1) :: vO (at' e.mem 2) :: vO (at' e.mem 3) :: vO (at' e.mem 4) :: oR8 e.log :: some ⟨5, [dW e]⟩ :: some ⟨1, vals.map I⟩ :: []) mv Q := by
  obtain ⟨ed, em, el, es, ew⟩ := e
  simp only at hd hm h ⊢
  obtain ⟨a0, a1, a2, a3, a4, rfl⟩ := list5 hd
  obtain ⟨b0, b1, b2, b3, b4, rfl⟩ := list5 hm
  subst hn
  have hmm : ∀ i, i < 14 → M13.contains i = false → i = 13 := by decide
  rcases p with _ | _ | _ | _ | _ | p
  rotate_right
  · omega
  · refine fin_movK [0, 1, 2, 3, 4, 5, 6, 14, 8, 9, 10, 11, 12, 13] M13 (by decide) (by decide) ?_ (fun i hi hc => by obtain rfl := hmm i hi hc; rcases hmv with rfl | rfl <;> exact ⟨rfl, rfl⟩) (RnT_pu hr) h
    (repeat (first | exact Keeps.nil | (refine Keeps.cons _ _ _ _ _ rfl rfl ?_ ?_; (· first | exact a2_I _ _ | exact a2_r _ _ | exact All2.cons _ _ _ _ (Rn1.agg _ _ (All2.cons _ _ _ _ (Rn0.own _ _ _ _ _ rfl) (All2.cons _ _ _ _ (Rn0.own _ _ _ _ _ rfl) (All2.cons _ _ _ _ (Rn0.own _ _ _ _ _ rfl) (All2.cons _ _ _ _ (Rn0.same _ rfl) (All2.cons _ _ _ _ (Rn0.same _ rfl) All2.nil)))))) All2.nil | (repeat (first | exact All2.nil | refine All2.cons _ _ _ _ (Rn1.agg _ _ (All2.cons _ _ _ _ (Rn0.same _ rfl) (All2.cons _ _ _ _ (Rn0.same _ rfl) (All2.cons _ _ _ _ (Rn0.own _ _ _ _ _ rfl) All2.nil)))) ?_))))))
  · refine fin_movK [0, 1, 2, 3, 4, 5, 6, 7, 14, 9, 10, 11, 12, 13] M13 (by decide) (by decide) ?_ (fun i hi hc => by obtain rfl := hmm i hi hc; rcases hmv with rfl | rfl <;> exact ⟨rfl, rfl⟩) (RnT_pu hr) h
    (repeat (first | exact Keeps.nil | (refine Keeps.cons _ _ _ _ _ rfl rfl ?_ ?_; (· first | exact a2_I _ _ | exact a2_r _ _ | exact All2.cons _ _ _ _ (Rn1.agg _ _ (All2.cons _ _ _ _ (Rn0.own _ _ _ _ _ rfl) (All2.cons _ _ _ _ (Rn0.own _ _ _ _ _ rfl) (All2.cons _ _ _ _ (Rn0.own _ _ _ _ _ rfl) (All2.cons _ _ _ _ (Rn0.same _ rfl) (All2.cons _ _ _ _ (Rn0.same _ rfl) All2.nil)))))) All2.nil | (repeat (first | exact All2.nil | refine All2.cons _ _ _ _ (Rn1.agg _ _ (All2.cons _ _ _ _ (Rn0.same _ rfl) (All2.cons _ _ _ _ (Rn0.same _ rfl) (All2.cons _ _ _ _ (Rn0.own _ _ _ _ _ rfl) All2.nil)))) ?_))))))
  · refine fin_movK [0, 1, 2, 3, 4, 5, 6, 7, 8, 14, 10, 11, 12, 13] M13 (by decide) (by decide) ?_ (fun i hi hc => by obtain rfl := hmm i hi hc; rcases hmv with rfl | rfl <;> exact ⟨rfl, rfl⟩) (RnT_pu hr) h
    (repeat (first | exact Keeps.nil | (refine Keeps.cons _ _ _ _ _ rfl rfl ?_ ?_; (· first | exact a2_I _ _ | exact a2_r _ _ | exact All2.cons _ _ _ _ (Rn1.agg _ _ (All2.cons _ _ _ _ (Rn0.own _ _ _ _ _ rfl) (All2.cons _ _ _ _ (Rn0.own _ _ _ _ _ rfl) (All2.cons _ _ _ _ (Rn0.own _ _ _ _ _ rfl) (All2.cons _ _ _ _ (Rn0.same _ rfl) (All2.cons _ _ _ _ (Rn0.same _ rfl) All2.nil)))))) All2.nil | (repeat (first | exact All2.nil | refine All2.cons _ _ _ _ (Rn1.agg _ _ (All2.cons _ _ _ _ (Rn0.same _ rfl) (All2.cons _ _ _ _ (Rn0.same _ rfl) (All2.cons _ _ _ _ (Rn0.own _ _ _ _ _ rfl) All2.nil)))) ?_))))))
  · refine fin_movK [0, 1, 2, 3, 4, 5, 6, 7, 8, 9, 14, 11, 12, 13] M13 (by decide) (by decide) ?_ (fun i hi hc => by obtain rfl := hmm i hi hc; rcases hmv with rfl | rfl <;> exact ⟨rfl, rfl⟩) (RnT_pu hr) h
    (repeat (first | exact Keeps.nil | (refine Keeps.cons _ _ _ _ _ rfl rfl ?_ ?_; (· first | exact a2_I _ _ | exact a2_r _ _ | exact All2.cons _ _ _ _ (Rn1.agg _ _ (All2.cons _ _ _ _ (Rn0.own _ _ _ _ _ rfl) (All2.cons _ _ _ _ (Rn0.own _ _ _ _ _ rfl) (All2.cons _ _ _ _ (Rn0.own _ _ _ _ _ rfl) (All2.cons _ _ _ _ (Rn0.same _ rfl) (All2.cons _ _ _ _ (Rn0.same _ rfl) All2.nil)))))) All2.nil | (repeat (first | exact All2.nil | refine All2.cons _ _ _ _ (Rn1.agg _ _ (All2.cons _ _ _ _ (Rn0.same _ rfl) (All2.cons _ _ _ _ (Rn0.same _ rfl) (All2.cons _ _ _ _ (Rn0.own _ _ _ _ _ rfl) All2.nil)))) ?_))))))
  · refine fin_movK [0, 1, 2, 3, 4, 5, 6, 7, 8, 9, 10, 14, 12, 13] M13 (by decide) (by decide) ?_ (fun i hi hc => by obtain rfl := hmm i hi hc; rcases hmv with rfl | rfl <;> exact ⟨rfl, rfl⟩) (RnT_pu hr) h
    (repeat (first | exact Keeps.nil | (refine Keeps.cons _ _ _ _ _ rfl rfl ?_ ?_; (· first | exact a2_I _ _ | exact a2_r _ _ | exact All2.cons _ _ _ _ (Rn1.agg _ _ (All2.cons _ _ _ _ (Rn0.own _ _ _ _ _ rfl) (All2.cons _ _ _ _ (Rn0.own _ _ _ _ _ rfl) (All2.cons _ _ _ _ (Rn0.own _ _ _ _ _ rfl) (All2.cons _ _ _ _ (Rn0.same _ rfl) (All2.cons _ _ _ _ (Rn0.same _ rfl) All2.nil)))))) All2.nil | (repeat (first | exact All2.nil | refine All2.cons _ _ _ _ (Rn1.agg _ _ (All2.cons _ _ _ _ (Rn0.same _ rfl) (All2.cons _ _ _ _ (Rn0.same _ rfl) (All2.cons _ _ _ _ (Rn0.own _ _ _ _ _ rfl) All2.nil)))) ?_))))))
def InvM (k : Nat) (w : Int) (o : AObj) (S : Store) : Prop := getO S 13 = some o ∧ ∃ es, getO S 6 = some ⟨3, es⟩ ∧ k < es.length ∧ (es.getD k .any).cells.getD 1 .any = I w
theorem loadD_c (e : Eng) (tx : Int) (k : Nat) (vals : List Int) (hk : k < 5) (hd : Sz e.disk) (hm : Sz e.mem) (hl : e.log.length ≤ 1000) (hv : vals.length = 3) :
    AFn1 Tryz.prog 52 [.ref 13 5 0 0, .ro [iD tx], .ro [iD (k : Int)], .ro [.sl 1 (vals.map iD)]] (sD e) (.tup []) (sD (e.laid tx k vals)) M13 := by
  have hd5 := hd.len
  have hm5 := hm.len
  have hsz := hm.sz k hk
  have cA := addD e (ldR tx k) hd hm hl
  have cC := Clone_own vals (by omega) (by omega)
  have hal := alog_len e (ldR tx k)
  have hatd : at' (dps 7 e.mem) (k : Int) = ⟨7 + k, at' e.mem (k : Int)⟩ := dps_at (by omega)
  have hl2 : (dps 7 e.mem).length = 5 := by rw [dps_len, hm5]
  have h5 : (k : Int) < 5 := by omega
  have g13 : ∀ (e : Eng) T, getO (sD e ++ T) 13 = some ⟨5, [dW e]⟩ := fun e T => rfl
  have g6 : ∀ (e : Eng) T, getO (sD e ++ T) 6 = some ⟨3, (dps 7 e.mem).map dA⟩ := fun e T => rfl
  have gg13 : ∀ (e : Eng), getO (sD e) 13 = some ⟨5, [dW e]⟩ := fun e => rfl
  have gg6 : ∀ (e : Eng), getO (sD e) 6 = some ⟨3, (dps 7 e.mem).map dA⟩ := fun e => rfl
  refine afn1_of Tryz.func52 rfl rfl ?_
  simp -implicitDefEqProofs only [go_sem, Tryz.f52, sD_len, gg13, gg6]
  refine enter_sD (e' := ⟨e.disk, e.mem, e.alog (ldR tx k), e.safe, e.down⟩) (M := [12]) (B := []) cA (by simp) hd5 hm5 hd5 hm5 rfl rfl rfl rfl (by simp) rfl ?_
  simp -implicitDefEqProofs only [go_sem, scT, g13]
  refine cp_drawG (id := 1) 19 (InvM k (at' e.mem (k : Int)).owner ⟨5, [dW ⟨e.disk, e.mem, e.alog (ldR tx k), e.safe, e.down⟩]⟩) mixed rfl ?_
  have hx1 : k < ((dps 7 e.mem).map dA).length := by simp [hl2]; omega
  have hx2 : (((dps 7 e.mem).map dA).getD k .any).cells.getD 1 .any = I (at' e.mem (k : Int)).owner := by
    rw [getM (by omega), hatd]
    rfl
  have hinv : InvM k (at' e.mem (k : Int)).owner ⟨5, [dW ⟨e.disk, e.mem, e.alog (ldR tx k), e.safe, e.down⟩]⟩ (sD ⟨e.disk, e.mem, e.alog (ldR tx k), e.safe, e.down⟩) := ⟨rfl, _, rfl, hx1, hx2⟩
  ((refine expG_get 0 (.ref 13 5 0 0) rfl ?_ ?_ hinv ?_ ?_); (· decide +kernel); (· decide +kernel); (· (rintro S ⟨hS0, es, hS1, hS2, hS3⟩; simp -implicitDefEqProofs only [go_sem, hS0, hS1, hS2, hS3, *])); try simp -implicitDefEqProofs only [go_sem, List.set_cons_succ, List.set_cons_zero])
  ((refine expG_get 1 (.ref 13 5 0 0) rfl ?_ ?_ hinv ?_ ?_); (· decide +kernel); (· decide +kernel); (· (rintro S ⟨hS0, es, hS1, hS2, hS3⟩; simp -implicitDefEqProofs only [go_sem, hS0, hS1, hS2, hS3, *])); try simp -implicitDefEqProofs only [go_sem, List.set_cons_succ, List.set_cons_zero])
  ((refine expG_get 2 (.ref 13 5 0 1) rfl ?_ ?_ hinv ?_ ?_); (· decide +kernel); (· decide +kernel); (· (rintro S ⟨hS0, es, hS1, hS2, hS3⟩; simp -implicitDefEqProofs only [go_sem, hS0, hS1, hS2, hS3, *])); try simp -implicitDefEqProofs only [go_sem, List.set_cons_succ, List.set_cons_zero])
  ((refine expG_get 3 (.own 6 3 0 5) rfl ?_ ?_ hinv ?_ ?_); (· decide +kernel); (· decide +kernel); (· (rintro S ⟨hS0, es, hS1, hS2, hS3⟩; simp -implicitDefEqProofs only [go_sem, hS0, hS1, hS2, hS3, *])); try simp -implicitDefEqProofs only [go_sem, List.set_cons_succ, List.set_cons_zero])
  ((refine expG_get 4 (I (k : Int)) rfl ?_ ?_ hinv ?_ ?_); (· decide +kernel); (· decide +kernel); (· (rintro S ⟨hS0, es, hS1, hS2, hS3⟩; simp -implicitDefEqProofs only [go_sem, hS0, hS1, hS2, hS3, *])); try simp -implicitDefEqProofs only [go_sem, List.set_cons_succ, List.set_cons_zero])
  ((refine expG_get 5 (I ((e.log.length + 1 : Nat) : Int)) rfl ?_ ?_ hinv ?_ ?_); (· decide +kernel); (· decide +kernel); (· (rintro S ⟨hS0, es, hS1, hS2, hS3⟩; simp -implicitDefEqProofs only [go_sem, hS0, hS1, hS2, hS3, *])); try simp -implicitDefEqProofs only [go_sem, List.set_cons_succ, List.set_cons_zero])
  ((refine expG_get 6 (.ref 13 5 0 0) rfl ?_ ?_ hinv ?_ ?_); (· decide +kernel); (· decide +kernel); (· (rintro S ⟨hS0, es, hS1, hS2, hS3⟩; simp -implicitDefEqProofs only [go_sem, hS0, hS1, hS2, hS3, *])); try simp -implicitDefEqProofs only [go_sem, List.set_cons_succ, List.set_cons_zero])
  ((refine expG_get 7 (.ref 13 5 0 0) rfl ?_ ?_ hinv ?_ ?_); (· decide +kernel); (· decide +kernel); (· (rintro S ⟨hS0, es, hS1, hS2, hS3⟩; simp -implicitDefEqProofs only [go_sem, hS0, hS1, hS2, hS3, *])); try simp -implicitDefEqProofs only [go_sem, List.set_cons_succ, List.set_cons_zero])
  ((refine expG_get 8 (.ref 13 5 0 1) rfl ?_ ?_ hinv ?_ ?_); (· decide +kernel); (· decide +kernel); (· (rintro S ⟨hS0, es, hS1, hS2, hS3⟩; simp -implicitDefEqProofs only [go_sem, hS0, hS1, hS2, hS3, *])); try simp -implicitDefEqProofs only [go_sem, List.set_cons_succ, List.set_cons_zero])
  ((refine expG_get 9 (.own 6 3 0 5) rfl ?_ ?_ hinv ?_ ?_); (· decide +kernel); (· decide +kernel); (· (rintro S ⟨hS0, es, hS1, hS2, hS3⟩; simp -implicitDefEqProofs only [go_sem, hS0, hS1, hS2, hS3, *])); try simp -implicitDefEqProofs only [go_sem, List.set_cons_succ, List.set_cons_zero])
  ((refine expG_get 10 (I (k : Int)) rfl ?_ ?_ hinv ?_ ?_); (· decide +kernel); (· decide +kernel); (· (rintro S ⟨hS0, es, hS1, hS2, hS3⟩; simp -implicitDefEqProofs only [go_sem, hS0, hS1, hS2, hS3, *])); try simp -implicitDefEqProofs only [go_sem, List.set_cons_succ, List.set_cons_zero])
  ((refine expG_get 11 (.ref 6 3 k 0) rfl ?_ ?_ hinv ?_ ?_); (· decide +kernel); (· decide +kernel); (· (rintro S ⟨hS0, es, hS1, hS2, hS3⟩; simp -implicitDefEqProofs only [go_sem, hS0, hS1, hS2, hS3, *])); try simp -implicitDefEqProofs only [go_sem, List.set_cons_succ, List.set_cons_zero])
  ((refine expG_get 12 (.ref 6 3 k 1) rfl ?_ ?_ hinv ?_ ?_); (· decide +kernel); (· decide +kernel); (· (rintro S ⟨hS0, es, hS1, hS2, hS3⟩; simp -implicitDefEqProofs only [go_sem, hS0, hS1, hS2, hS3, *])); try simp -implicitDefEqProofs only [go_sem, List.set_cons_succ, List.set_cons_zero])
  ((refine expG_get 13 (I (at' e.mem (k : Int)).owner) rfl ?_ ?_ hinv ?_ ?_); (· decide +kernel); (· decide +kernel); (· (rintro S ⟨hS0, es, hS1, hS2, hS3⟩; simp -implicitDefEqProofs only [go_sem, hS0, hS1, hS2, hS3, *])); try simp -implicitDefEqProofs only [go_sem, List.set_cons_succ, List.set_cons_zero])
  ((refine expG_get 14 (ints vals) rfl ?_ ?_ hinv ?_ ?_); (· decide +kernel); (· decide +kernel); (· (rintro S ⟨hS0, es, hS1, hS2, hS3⟩; simp -implicitDefEqProofs only [go_sem, hS0, hS1, hS2, hS3, *])); try simp -implicitDefEqProofs only [go_sem, List.set_cons_succ, List.set_cons_zero])
  ((with_reducible refine expG_one 15 ?_ ?_); (· decide +kernel); try simp -implicitDefEqProofs only [go_sem, *])
  (repeat' (first | ((with_reducible first | refine gon ?_ ?_ | refine gos ?_ ?_ | refine cdn ?_ ?_ | refine cds ?_ ?_ | refine gpn ?_ ?_ | refine gps ?_ ?_) <;> intro h <;> (try simp only [dt, df, gi, gt] at h) <;> try simp -implicitDefEqProofs only [go_sem, *]) | ((with_reducible refine And.intro ?_ ?_); (· first | omega | (simp only [List.length_take]; omega)); try simp -implicitDefEqProofs only [go_sem, *]) | first | ((with_reducible refine enter_fn (cC) ?_ ?_); (· rfl); try simp -implicitDefEqProofs only [go_sem, *]) | fail))
  refine ⟨⟨rfl, _, rfl, hx1, hx2⟩, ?_⟩
  ((with_reducible refine expG_one 16 ?_ ?_); (· decide +kernel); try simp -implicitDefEqProofs only [go_sem, *])
  refine ⟨⟨rfl, _, rfl, hx1, hx2⟩, ?_⟩
  ((with_reducible refine expG_one 17 ?_ ?_); (· decide +kernel); try simp -implicitDefEqProofs only [go_sem, *])
  refine ⟨⟨rfl, _, rfl, hx1, hx2⟩, ?_⟩
  ((with_reducible refine expG_one 18 ?_ ?_); (· decide +kernel); try simp -implicitDefEqProofs only [go_sem, *])
  refine ⟨⟨rfl, _, rfl, by rw [List.length_set]; exact hx1, by rw [show ∀ x : AV, (((dps 7 e.mem).map dA).set k x).getD k .any = x from fun x => by simp [List.getD, hl2, hk]]; rfl⟩, ?_⟩
  ((with_reducible refine expG_end ?_ ?_); (· decide +kernel); try simp -implicitDefEqProofs only [go_sem, *])
  (repeat' (first | ((with_reducible first | refine gon ?_ ?_ | refine gos ?_ ?_ | refine cdn ?_ ?_ | refine cds ?_ ?_ | refine gpn ?_ ?_ | refine gps ?_ ?_) <;> intro h <;> (try simp only [dt, df, gi, gt] at h) <;> try simp -implicitDefEqProofs only [go_sem, *]) | ((with_reducible refine And.intro ?_ ?_); (· first | omega | (simp only [List.length_take]; omega)); try simp -implicitDefEqProofs only [go_sem, *]) | fail))
  have := fin_mem14 (a := ((e.log.length + 1 : Nat) : Int)) (b := (at' e.mem (k : Int)).owner) (vals := vals) (n := 3) (p := k) (e := ⟨e.disk, e.mem, e.alog (ldR tx k), e.safe, e.down⟩) (r := .tup []) (mv := [12]) (Q := fun r' S' mv => r' = AV.tup [] ∧ S' = sD (e.laid tx k vals) ∧ mv = M13) hk hd5 hm5 hv.symm (.inl rfl) (.inr rfl) ⟨rfl, by unfold Eng.laid; rw [hal]; rfl, rfl⟩
  exact this
end
section
attribute [local go_sem] slt_r slt_I slt_p
theorem valsB_len {e : Eng} {tx page : Int} {vals : List Int} (h : e.loadB tx page vals = true) : vals.length = 3 := by
  unfold Eng.loadB at h
  simp only [Bool.and_eq_true, decide_eq_true_eq] at h
  exact h.1.1.1.1.2
theorem change_load (e : Eng) (tx page : Int) (vals : List Int) (hok : okE e = true) (hs : e.small) (hv : vals.length < 4611686018427387904) :
    Fn Tryz.prog 27 [eA e, I tx, I page, .clo 46 [.ro [iD page], .ro [.sl 1 (vals.map iD)], .ro [iD tx]], .clo 52 [.ro [iD tx], .ro [iD page], .ro [.sl 1 (vals.map iD)]]]
      (fun r S => r = dR (e.load tx page vals) ∧ S = dS 0 (e.load tx page vals).1) := by
  have hi := inv_of_ok hok
  have hlen := hi.len
  rcases hmay : mayB e tx page with _ | _
  · have e1 : e.load tx page vals = (e, false) := by
      unfold Eng.load Eng.loadB
      rw [hmay]
      rfl
    rw [e1]
    exact change_may e tx page _ _ _ _ hok hs hmay
  obtain ⟨-, ht, hp⟩ := mayB_iff hmay
  obtain ⟨k, hk, rfl⟩ := page_nat hp
  have cH := loadH_fn e tx k vals hk hi hv
  have hlb : e.loadB tx k vals = ldH e tx k vals := by
    rw [ldH_eq e tx k vals hi]
    unfold Eng.loadB
    rw [hmay, Bool.true_and]
  rcases hh : ldH e tx k vals with _ | _
  · have e1 : e.load tx k vals = (e, false) := by
      unfold Eng.load
      rw [hlb, hh]
      rfl
    rw [e1]
    rw [hh] at cH
    exact change_hold e tx k _ _ _ _ hok hs hmay rfl cH
  rw [hh] at cH hlb
  have hv3 := valsB_len hlb
  have hc := can_load hi hmay
  have hw := can_wf hi hc
  have cD := loadD_c e tx k vals hk hi.disk.sz hi.mem.sz (by omega) hv3
  by_cases hf : e.fits (ldR tx k) = true
  · have e1 : e.load tx k vals = (e.laid tx k vals, true) := by unfold Eng.load; rw [if_pos hlb, if_pos hf]
    rw [e1]
    exact change_ok e tx k _ _ _ _ (e.laid tx k vals) hok hs hmay hi.disk.len (by simp [Eng.laid, hi.mem.len]) rfl rfl cH cD hw (by simpa [Eng.fits, Eng.laid] using hf)
  · have e1 : e.load tx k vals = (e, false) := by unfold Eng.load; rw [if_pos hlb, if_neg hf]
    rw [e1]
    exact change_full e tx k _ _ _ _ (e.laid tx k vals) hok hs hmay hi.disk.len (by simp [Eng.laid, hi.mem.len]) rfl rfl cH cD hw (by simpa [Eng.fits, Eng.laid] using hf)
theorem ChangeLoadI_own (e : Eng) (tx page : Int) (vals : List Int) (hok : okE e = true) (hs : e.small) (hv : vals.length < 4611686018427387904) :
    Fn Tryz.prog 13 [eA e, I tx, I page, ints vals] (fun r S => r = dR (e.load tx page vals) ∧ S = dS 0 (e.load tx page vals).1) := by
  have c1 := change_load e tx page vals hok hs hv
  obtain ⟨⟨q, b⟩, hq⟩ : ∃ q, e.load tx page vals = q := ⟨_, rfl⟩
  rw [hq] at c1 ⊢
  clear hq hok
  obtain ⟨n1, hn1⟩ : ∃ n1, 5 + (1 + q.disk.length) = n1 := ⟨_, rfl⟩
  obtain ⟨n2, hn2⟩ : ∃ n2, 5 + (2 + q.disk.length + q.mem.length) = n2 := ⟨_, rfl⟩
  have box : ∀ {S : Store} {i : Nat} {x : AV} {d : D}, getO S i = some ⟨1, [x]⟩ → x.cells = [x] → x = d.av0 → x.pur0 = true → d.scalar = true → Arg1 S true (.ref i 1 0 0) (.ro [d]) := fun h hx hd hp hs => by
    refine .ref _ _ _ _ ⟨1, [_]⟩ _ rfl h rfl Nat.one_pos Nat.one_pos ?_ (by simp [hs])
    simp only [List.getD_cons_zero, List.map_cons, List.map_nil, hx, ← hd]
    exact .cons _ _ _ _ (.same _ hp) .nil
  refine fn_of Tryz.func13 rfl rfl ?_
  simp -implicitDefEqProofs only [go_sem, Tryz.f13]
  refine enter_seeE 5 n1 n2 rfl hn1 hn2 c1 (.cons _ _ _ _ (see_same rfl) (.cons _ _ _ _ (see_same rfl) (.cons _ _ _ _ (see_same rfl) (.cons _ _ _ _ (see_arg (.clo _ _ _ (.cons _ _ _ _ (box rfl rfl rfl rfl rfl) (.cons _ _ _ _ (box rfl rfl rfl rfl rfl) (.cons _ _ _ _ (box rfl rfl rfl rfl rfl) .nil)))))
    (.cons _ _ _ _ (see_arg (.clo _ _ _ (.cons _ _ _ _ (box rfl rfl rfl rfl rfl) (.cons _ _ _ _ (box rfl rfl rfl rfl rfl) (.cons _ _ _ _ (box rfl rfl rfl rfl rfl) .nil))))) .nil))))) ?_
  intro B hB
  simp -implicitDefEqProofs only [go_sem, true_and]
  exact fin_dVd 5 n1 n2 q hB (by simp) hn1 hn2
theorem ChangeLoadI_none (e : Eng) (tx page : Int) (vals : List Int) (hok : okE e = false) (hs : e.small) : Fn Tryz.prog 13 [eA e, I tx, I page, ints vals] (fun r S => r = .tup [zA, Bo false] ∧ S = []) := by
  have c1 := change_bad e tx page 46 52 [.ro [iD page], .ro [.sl 1 (vals.map iD)], .ro [iD tx]] [.ro [iD tx], .ro [iD page], .ro [.sl 1 (vals.map iD)]] hok hs
  have box : ∀ {S : Store} {i : Nat} {x : AV} {d : D}, getO S i = some ⟨1, [x]⟩ → x.cells = [x] → x = d.av0 → x.pur0 = true → d.scalar = true → Arg1 S true (.ref i 1 0 0) (.ro [d]) := fun h hx hd hp hs => by
    refine .ref _ _ _ _ ⟨1, [_]⟩ _ rfl h rfl Nat.one_pos Nat.one_pos ?_ (by simp [hs])
    simp only [List.getD_cons_zero, List.map_cons, List.map_nil, hx, ← hd]
    exact .cons _ _ _ _ (.same _ hp) .nil
  clear hok
  refine fn_of Tryz.func13 rfl rfl ?_
  simp -implicitDefEqProofs only [go_sem, Tryz.f13]
  refine enter_see c1 (.cons _ _ _ _ (see_same rfl) (.cons _ _ _ _ (see_same rfl) (.cons _ _ _ _ (see_same rfl) (.cons _ _ _ _ (see_arg (.clo _ _ _ (.cons _ _ _ _ (box rfl rfl rfl rfl rfl) (.cons _ _ _ _ (box rfl rfl rfl rfl rfl) (.cons _ _ _ _ (box rfl rfl rfl rfl rfl) .nil)))))
    (.cons _ _ _ _ (see_arg (.clo _ _ _ (.cons _ _ _ _ (box rfl rfl rfl rfl rfl) (.cons _ _ _ _ (box rfl rfl rfl rfl rfl) (.cons _ _ _ _ (box rfl rfl rfl rfl rfl) .nil))))) .nil))))) rfl (fun o ho => by cases ho) ?_
  simp -implicitDefEqProofs only [go_sem, shS, List.map_nil]
  exact fin_z
theorem ChangeLoadI_fn (e : Eng) (tx page : Int) (vals : List Int) (hs : e.small) (hv : vals.length < 4611686018427387904) : Fn1 Tryz.prog 13 [eA e, I tx, I page, ints vals] (.tup [eA (loadD e tx page vals).1, Bo (loadD e tx page vals).2]) := by
  unfold loadD
  rcases hok : okE e with _ | _
  · rw [if_neg (by simp)]
    exact fn1_of_own (ChangeLoadI_none e tx page vals hok hs) see_zA
  · rw [if_pos rfl]
    exact fn1_of_own (ChangeLoadI_own e tx page vals hok hs hv) (see_dR _)
end
section
attribute [local go_sem] slt_r slt_I slt_p ty_rd ty_ev ty_evs
@[local go_sem] theorem bsE_two {te : TI} {tm : List AV} {x y : Operand} : bsE (some te) tm 2 #[(0, x), (1, y)] = .new (2 * te.zs.length ≤ 16777216 ∧ ((ev tm x).ok = true ∧ (ev tm x).cells.length = te.zs.length) ∧ ((ev tm y).ok = true ∧ (ev tm y).cells.length = te.zs.length))
    ⟨te.zs.length, [ev tm x, ev tm y]⟩ (fun i => .own i te.zs.length 0 2) := by
  simp [bsE, List.range_succ]
theorem fin_dcl {e : Eng} {a b : Int} {vals : List Int} {o0 o1 : Option AObj} {T : Store} (h : e.dr) (hv : vals.length = 3) :
    Fin 0 (.tup [eA e, I a, I b, .own 2 1 0 3]) (o0 :: o1 :: some ⟨1, vals.map I⟩ :: T) [] (fun r S' mv => ∃ q : Eng × Int × Int × List Int, (q.1.dr ∧ q.2.2.2.length = 3) ∧ r = .tup [eA q.1, I q.2.1, I q.2.2.1, ints q.2.2.2] ∧ S' = [] ∧ mv = []) := by
  have hrn : ∀ {K : List Nat} {S : Store} {n0 : Nat} {x : AV}, x.pur0 = true → Rd0 K S n0 x x := fun h => .rn _ _ (.same _ h)
  refine fin_drawn (.tup _ _ (.cons _ _ _ _ (.agg _ _ (.cons _ _ _ _ (hrn rfl) (.cons _ _ _ _ (hrn rfl) (.cons _ _ _ _ (hrn rfl) (.cons _ _ _ _ (hrn rfl) (.cons _ _ _ _ (hrn rfl) .nil)))))) (.cons _ _ _ _ (.of _ _ (hrn rfl)) (.cons _ _ _ _ (.of _ _ (hrn rfl)) (.cons _ _ _ _ (.of _ _ ?_) .nil)))))
    ⟨(e, a, b, vals), ⟨h, hv⟩, rfl, rfl, rfl⟩
  refine .drop 2 1 0 3 ⟨1, vals.map I⟩ _ (by decide) (by simp) rfl rfl (by simp [hv]) ?_
  have : ((vals.map I).drop 0).take 3 = vals.map I := by rw [List.drop_zero, List.take_of_length_le (by simp [hv])]
  rw [this]
  exact isDs_I vals
theorem ownD_dr {e : Eng} {tx page table : Int} (h : (ownD e tx page table).2 = true) : (ownD e tx page table).1.dr := by
  unfold ownD at h ⊢
  by_cases hok : okE e = true
  · rw [if_pos hok]
    exact dr_of (own_inv (inv_of_ok hok) tx page table)
  · rw [if_neg hok] at h
    cases h
theorem DrawChangeLoad_c (l : List Int) (hl : l.length < 4611686018427387904) (hb : Byt l) : FnX 11 [bts l] (fun q : Eng × Int × Int × List Int => q.1.dr ∧ q.2.2.2.length = 3) (fun q => .tup [eA q.1, I q.2.1, I q.2.2.1, ints q.2.2.2]) := by
  refine afnx_awp Tryz.func11 rfl rfl ?_
  refine awp_seqc ?_
  simp -implicitDefEqProofs only [go_sem, Tryz.f11]
  refine awp_seqc ?_
  simp -implicitDefEqProofs only [go_sem, true_and]
  (repeat' (first | ((with_reducible first | refine gon ?_ ?_ | refine gos ?_ ?_ | refine cdn ?_ ?_ | refine cds ?_ ?_ | refine gpn ?_ ?_ | refine gps ?_ ?_) <;> intro h <;> (try simp only [dt, df, gi, gt] at h) <;> try simp -implicitDefEqProofs only [go_sem, *]) | ((with_reducible refine And.intro ?_ ?_); (· first | omega | (simp only [List.length_take]; omega)); try simp -implicitDefEqProofs only [go_sem, *]) | ((with_reducible refine enter_at ([] : List Nat) (M2 := []) (l6Open_c l hl hb) (by decide) ?_ ?_ rfl ?_); (· repeat (first | exact Keeps.nil | (refine Keeps.cons _ _ _ _ _ rfl rfl ?_ ?_; (· first | exact a2_p _ _ | exact a2_1 rfl | exact a2_I _ _)))); (· repeat (first | exact All2.nil | (refine All2.cons _ _ _ _ ?_ ?_; (· first | exact rnT_eX rfl rfl | exact rnT_prim | exact rnT_sl | exact rnT_ref rfl | exact rnT_agg rfl | exact rnT_own rfl | exact rnT_eX5 rfl rfl)))); rintro l' hC; try simp -implicitDefEqProofs only [go_sem, *])))
  refine awp_seqc ?_
  simp -implicitDefEqProofs only [go_sem, true_and]
  refine pick_atI (i := 1) (p := 0) hC rfl (by decide) (by decide) ?_
  rintro k1 hk1
  simp -implicitDefEqProofs only [go_sem, true_and]
  (repeat' (first | ((with_reducible first | refine gon ?_ ?_ | refine gos ?_ ?_ | refine cdn ?_ ?_ | refine cds ?_ ?_ | refine gpn ?_ ?_ | refine gps ?_ ?_) <;> intro h <;> (try simp only [dt, df, gi, gt] at h) <;> try simp -implicitDefEqProofs only [go_sem, *]) | ((with_reducible refine And.intro ?_ ?_); (· first | omega | (simp only [List.length_take]; omega)); try simp -implicitDefEqProofs only [go_sem, *]) | first | ((refine pick_atI (i := 1) hC rfl ?_ ?_ ?_); (· omega); (· first | decide | omega); rintro k hk; try simp -implicitDefEqProofs only [go_sem, *]) | fail))
  rename_i k2 hk2
  refine awp_cut (fun q : List Int × Nat => ⟨(bts l :: .any :: .ref 0 5 0 0 :: I 0 :: I 0 :: nilS :: .ref 1 2 0 0 :: .own 2 1 0 3 :: .any :: .any :: .any :: .any :: .any :: .any :: .any :: .any :: .any :: .any :: .any :: .any :: .any :: .any :: .any :: .any :: .any :: .any :: .any :: .any :: .any :: .any :: .any :: .any :: .any :: .any :: .any :: .any :: .any :: .any :: .any :: .any :: .any :: .any :: .any :: .any :: .any :: .any :: .any :: .any :: .any :: .any :: .any :: .any :: .any :: .any :: .any :: .any :: .any :: .any :: .any :: .any :: .any :: .any :: .any :: .any :: .any :: .any :: .any :: .any :: .any :: .any :: .any :: .any :: .any :: .any :: .any :: .any :: .any :: .any :: .any :: .any :: .any :: .any :: .any :: .any :: .any :: .any :: .any :: .any :: .any :: .any :: .any :: .any :: .any :: .any :: .any :: .any :: .any :: .any :: .any :: .any :: .any :: .any :: .any :: .any :: .any :: .any :: .any :: .any :: .any :: .any :: .any :: .any :: .any :: .any :: .any :: .any :: .any :: .any :: .any :: []), [some ⟨5, [.agg [.prim (.slice none 0 0), .prim (.slice none 0 0), .prim (.slice none 0 0), I 0, Bo false]]⟩, oR l' q.2, some ⟨1, q.1.map I⟩], []⟩) (fun q => q.1.length = 3 ∧ q.2 ≤ 10) ?_ ?_
  · simp -implicitDefEqProofs only [go_sem, true_and]
    (repeat' (first | ((with_reducible first | refine gon ?_ ?_ | refine gos ?_ ?_ | refine cdn ?_ ?_ | refine cds ?_ ?_ | refine gpn ?_ ?_ | refine gps ?_ ?_) <;> intro h <;> (try simp only [dt, df, gi, gt] at h) <;> try simp -implicitDefEqProofs only [go_sem, *]) | ((with_reducible refine And.intro ?_ ?_); (· first | omega | (simp only [List.length_take]; omega)); try simp -implicitDefEqProofs only [go_sem, *]) | first | ((refine pick_atI (i := 1) hC rfl ?_ ?_ ?_); (· omega); (· first | decide | omega); rintro k3 hk3; try simp -implicitDefEqProofs only [go_sem, *]) | fail))
    · rename_i ka hka kb hkb
      have hkb' : kb = 0 ∨ kb = 1 ∨ kb = 2 := by have : 0 ≤ kb ∧ kb < 3 := hkb; omega
      have hk3' : k3 = 0 ∨ k3 = 1 := by have : 0 ≤ k3 ∧ k3 < 2 := hk3; omega
      refine ⟨⟨by omega, by omega⟩, by omega, ⟨by omega, by omega⟩, ⟨by omega, ?_, ?_⟩, ⟨([k1, IntKind.i64.wrap (1 + k2), k].set kb.toNat (if k3 = 0 then -1 else 10), 6), ⟨by simp, by simp only; omega⟩, ?_⟩⟩
      · rcases hk3' with rfl | rfl <;> rfl
      · rcases hk3' with rfl | rfl <;> rfl
      · rcases hk3' with rfl | rfl <;> rcases hkb' with rfl | rfl | rfl
        all_goals
          refine WkN.trans (wk_tm ?_) (wk_trunc (S := [_, oR l' 6, some ⟨1, _⟩]) (Nat.le_refl _) rfl ?_)
          · repeat (first | exact WL.nil | (with_reducible refine WL.any _ _ _ ?_) | (with_reducible refine WL.same _ _ _ ?_) | (refine WL.eq _ _ _ _ rfl ?_))
          · rfl
    · refine ⟨([k1, IntKind.i64.wrap (1 + k2), k], 4), ⟨rfl, by simp only; omega⟩, ?_⟩
      refine wk_tm ?_; repeat (first | exact WL.nil | (with_reducible refine WL.any _ _ _ ?_) | (with_reducible refine WL.same _ _ _ ?_) | (refine WL.eq _ _ _ _ rfl ?_))
  rintro ⟨vals, p⟩ ⟨hv3, hp⟩
  simp only at hv3 hp
  refine awp_seqc ?_
  simp -implicitDefEqProofs only [go_sem, true_and]
  (repeat' (first | ((with_reducible first | refine gon ?_ ?_ | refine gos ?_ ?_ | refine cdn ?_ ?_ | refine cds ?_ ?_ | refine gpn ?_ ?_ | refine gps ?_ ?_) <;> intro h <;> (try simp only [dt, df, gi, gt] at h) <;> try simp -implicitDefEqProofs only [go_sem, *]) | ((with_reducible refine And.intro ?_ ?_); (· first | omega | (simp only [List.length_take]; omega)); try simp -implicitDefEqProofs only [go_sem, *]) | first | ((with_reducible refine at_readerI (i := 1) ?_ (l72Up_c l' p hC (by omega)) (fun _ _ => rfl) ?_); (· rfl); rintro ⟨e, p2⟩ ⟨h0, h1, h2⟩; simp only at *; try simp -implicitDefEqProofs only [go_sem, *]) | fail))
  refine awp_cut (fun q : Eng × Nat => ⟨(bts l :: .any :: .ref 0 5 0 0 :: I 0 :: I 0 :: nilS :: .ref 1 2 0 0 :: .own 2 1 0 3 :: .ref 3 5 0 0 :: .any :: .any :: .any :: .any :: .any :: .any :: .any :: .any :: .any :: .any :: .any :: .any :: .any :: .any :: .any :: .any :: .any :: .any :: .any :: .any :: .any :: .any :: .any :: .any :: .any :: .any :: .any :: .any :: .any :: .any :: .any :: .any :: .any :: .any :: .any :: .any :: .any :: .any :: .any :: .any :: .any :: .any :: .any :: .any :: .any :: .any :: .any :: .any :: .any :: .any :: .any :: .any :: .any :: .any :: .any :: .any :: .any :: .any :: .any :: .any :: .any :: .any :: .any :: .any :: .any :: .any :: .any :: .any :: .any :: .any :: .any :: .any :: .any :: .any :: .any :: .any :: .any :: .any :: .any :: .any :: .any :: .any :: .any :: .any :: .any :: .any :: .any :: .any :: .any :: .any :: .any :: .any :: .any :: .any :: .any :: .any :: .any :: .any :: .any :: .any :: .any :: .any :: .any :: .any :: .any :: .any :: .any :: .any :: .any :: .any :: []), [some ⟨5, [.agg [.prim (.slice none 0 0), .prim (.slice none 0 0), .prim (.slice none 0 0), I 0, Bo false]]⟩, oR l' q.2, some ⟨1, vals.map I⟩, some ⟨5, [eA q.1]⟩], []⟩) (fun q => q.1.dr ∧ q.2 ≤ 90000) ?_ ?_
  rotate_left
  · rintro ⟨e, p⟩ ⟨hdr, hp⟩
    simp only at hdr hp ⊢
    refine awp_seqc ?_
    refine cp_drawG (id := 20) 11 (fun S => getO S 3 = some ⟨5, [eA e]⟩) mixed rfl ?_
    ((refine expG_get 0 (eA e) rfl ?_ ?_ ?_ ?_ ?_); (· decide +kernel); (· decide +kernel); (· rfl); (· (intro S hS0; simp -implicitDefEqProofs only [go_sem, hS0, *])); try simp -implicitDefEqProofs only [go_sem, List.set_cons_succ, List.set_cons_zero])
    ((refine expG_get 1 (.ref 1 2 0 0) rfl ?_ ?_ ?_ ?_ ?_); (· decide +kernel); (· decide +kernel); (· rfl); (· (intro S hS0; simp -implicitDefEqProofs only [go_sem, hS0, *])); try simp -implicitDefEqProofs only [go_sem, List.set_cons_succ, List.set_cons_zero])
    ((refine expG_get 4 (.ref 1 2 0 0) rfl ?_ ?_ ?_ ?_ ?_); (· decide +kernel); (· decide +kernel); (· rfl); (· (intro S hS0; simp -implicitDefEqProofs only [go_sem, hS0, *])); try simp -implicitDefEqProofs only [go_sem, List.set_cons_succ, List.set_cons_zero])
    ((refine expG_get 6 (.own 2 1 0 3) rfl ?_ ?_ ?_ ?_ ?_); (· decide +kernel); (· decide +kernel); (· rfl); (· (intro S hS0; simp -implicitDefEqProofs only [go_sem, hS0, *])); try simp -implicitDefEqProofs only [go_sem, List.set_cons_succ, List.set_cons_zero])
    (repeat' (first | ((with_reducible first | refine gon ?_ ?_ | refine gos ?_ ?_ | refine cdn ?_ ?_ | refine cds ?_ ?_ | refine gpn ?_ ?_ | refine gps ?_ ?_) <;> intro h <;> (try simp only [dt, df, gi, gt] at h) <;> try simp -implicitDefEqProofs only [go_sem, *]) | ((with_reducible refine And.intro ?_ ?_); (· first | omega | (simp only [List.length_take]; omega)); try simp -implicitDefEqProofs only [go_sem, *]) | first | ((refine pick_atI (i := 1) hC rfl ?_ ?_ ?_); (· omega); (· first | decide | omega); rintro k4 hk4; try simp -implicitDefEqProofs only [go_sem, *]) | ((with_reducible refine expG_two 3 5 ?_ ?_ ?_); (· decide +kernel); all_goals (try simp -implicitDefEqProofs only [go_sem, *])) | ((with_reducible refine expG_two 3 7 ?_ ?_ ?_); (· decide +kernel); all_goals (try simp -implicitDefEqProofs only [go_sem, *])) | ((with_reducible refine expG_two 5 3 ?_ ?_ ?_); (· decide +kernel); all_goals (try simp -implicitDefEqProofs only [go_sem, *])) | ((with_reducible refine expG_two 7 3 ?_ ?_ ?_); (· decide +kernel); all_goals (try simp -implicitDefEqProofs only [go_sem, *])) | ((with_reducible refine expG_one 2 ?_ ?_); (· decide +kernel); try simp -implicitDefEqProofs only [go_sem, *]) | ((with_reducible refine expG_one 3 ?_ ?_); (· decide +kernel); try simp -implicitDefEqProofs only [go_sem, *]) | ((with_reducible refine expG_one 5 ?_ ?_); (· decide +kernel); try simp -implicitDefEqProofs only [go_sem, *]) | ((with_reducible refine expG_one 7 ?_ ?_); (· decide +kernel); try simp -implicitDefEqProofs only [go_sem, *]) | ((with_reducible refine expG_one 8 ?_ ?_); (· decide +kernel); try simp -implicitDefEqProofs only [go_sem, *]) | ((with_reducible refine expG_one 9 ?_ ?_); (· decide +kernel); try simp -implicitDefEqProofs only [go_sem, *]) | ((with_reducible refine expG_one 10 ?_ ?_); (· decide +kernel); try simp -implicitDefEqProofs only [go_sem, *]) | ((with_reducible refine expG_end ?_ ?_); (· decide +kernel); try simp -implicitDefEqProofs only [go_sem, *]) | fail))
    all_goals
      refine codeP_sound _ _ _ ?_
      simp -implicitDefEqProofs only [go_sem, true_and]
      exact fin_dcl hdr hv3
  simp -implicitDefEqProofs only [go_sem, true_and]
  refine cp_loop (fun q : Nat × Eng × Nat => ⟨(bts l :: .any :: .ref 0 5 0 0 :: I 0 :: I 0 :: nilS :: .ref 1 2 0 0 :: .own 2 1 0 3 :: .ref 3 5 0 0 :: I (q.1 : Int) :: .any :: .any :: .any :: .any :: .any :: .any :: .any :: .any :: .any :: .any :: .any :: .any :: .any :: .any :: .any :: .any :: .any :: .any :: .any :: .any :: .any :: .any :: .any :: .any :: .any :: .any :: .any :: .any :: .any :: .any :: .any :: .any :: .any :: .any :: .any :: .any :: .any :: .any :: .any :: .any :: .any :: .any :: .any :: .any :: .any :: .any :: .any :: .any :: .any :: .any :: .any :: .any :: .any :: .any :: .any :: .any :: .any :: .any :: .any :: .any :: .any :: .any :: .any :: .any :: .any :: .any :: .any :: .any :: .any :: .any :: .any :: .any :: .any :: .any :: .any :: .any :: .any :: .any :: .any :: .any :: .any :: .any :: .any :: .any :: .any :: .any :: .any :: .any :: .any :: .any :: .any :: .any :: .any :: .any :: .any :: .any :: .any :: .any :: .any :: .any :: .any :: .any :: .any :: .any :: .any :: .any :: .any :: .any :: .any :: []), [some ⟨5, [.agg [.prim (.slice none 0 0), .prim (.slice none 0 0), .prim (.slice none 0 0), I 0, Bo false]]⟩, oR l' q.2.2, some ⟨1, vals.map I⟩, some ⟨5, [eA q.2.1]⟩], []⟩)
    (fun q => q.1 ≤ 5 ∧ q.2.1.dr ∧ q.2.2 ≤ 13000 + 12100 * q.1) (fun q => 5 - q.1) (0, e, p2) ?_ ?_ ?_
  · exact ⟨by simp, h0, by simp only; omega⟩
  · refine wk_tm ?_; repeat (first | exact WL.nil | (with_reducible refine WL.any _ _ _ ?_) | (with_reducible refine WL.same _ _ _ ?_) | (refine WL.eq _ _ _ _ rfl ?_))
  · rintro ⟨i, e, p⟩ ⟨hi5, hdr, hp⟩
    simp only at hi5 hdr hp ⊢
    by_cases hi : i < 5
    · have hi' : (i : Int) < 5 := by omega
      simp -implicitDefEqProofs only [go_sem, hi']
      (repeat' (first | ((with_reducible first | refine gon ?_ ?_ | refine gos ?_ ?_ | refine cdn ?_ ?_ | refine cds ?_ ?_ | refine gpn ?_ ?_ | refine gps ?_ ?_) <;> intro h <;> (try simp only [dt, df, gi, gt] at h) <;> try simp -implicitDefEqProofs only [go_sem, *]) | ((with_reducible refine And.intro ?_ ?_); (· first | omega | (simp only [List.length_take]; omega)); try simp -implicitDefEqProofs only [go_sem, *]) | first | ((refine pick_atI (i := 1) hC rfl ?_ ?_ ?_); (· omega); (· first | decide | omega); rintro k3 hk3; try simp -implicitDefEqProofs only [go_sem, *]) | fail))
      · refine cp_loop (fun q : Nat × Nat => ⟨(bts l :: .any :: .ref 0 5 0 0 :: I 0 :: I 0 :: nilS :: .ref 1 2 0 0 :: .own 2 1 0 3 :: .ref 3 5 0 0 :: I (i : Int) :: I (q.1 : Int) :: .any :: .any :: .any :: .any :: .any :: .any :: .any :: .any :: .any :: .any :: .any :: .any :: .any :: .any :: .any :: .any :: .any :: .any :: .any :: .any :: .any :: .any :: .any :: .any :: .any :: .any :: .any :: .any :: .any :: .any :: .any :: .any :: .any :: .any :: .any :: .any :: .any :: .any :: .any :: .any :: .any :: .any :: .any :: .any :: .any :: .any :: .any :: .any :: .any :: .any :: .any :: .any :: .any :: .any :: .any :: .any :: .any :: .any :: .any :: .any :: .any :: .any :: .any :: .any :: .any :: .any :: .any :: .any :: .any :: .any :: .any :: .any :: .any :: .any :: .any :: .any :: .any :: .any :: .any :: .any :: .any :: .any :: .any :: .any :: .any :: .any :: .any :: .any :: .any :: .any :: .any :: .any :: .any :: .any :: .any :: .any :: .any :: .any :: .any :: .any :: .any :: .any :: .any :: .any :: .any :: .any :: .any :: .any :: []), [some ⟨5, [.agg [.prim (.slice none 0 0), .prim (.slice none 0 0), .prim (.slice none 0 0), I 0, Bo false]]⟩, oR l' q.2, some ⟨1, vals.map I⟩, some ⟨5, [eA e]⟩], []⟩)
          (fun q => q.1 ≤ 5 ∧ q.2 ≤ 13001 + 12100 * i + q.1) (fun q => 5 - q.1) (0, p + 1) ?_ ?_ ?_
        · exact ⟨by simp, by simp only; omega⟩
        · refine wk_tm ?_; repeat (first | exact WL.nil | (with_reducible refine WL.any _ _ _ ?_) | (with_reducible refine WL.same _ _ _ ?_) | (refine WL.eq _ _ _ _ rfl ?_))
        · rintro ⟨j, p⟩ ⟨hj5, hp⟩
          simp only at hj5 hp ⊢
          by_cases hj : j < 5
          · have hj' : (j : Int) < 5 := by omega
            have hje : (j : Int) < (e.mem.length : Int) := by have := hdr.mem; omega
            have hwj : IntKind.i64.wrap ((j : Int) + 1) = ((j + 1 : Nat) : Int) := by rw [wrap_ok (by omega) (by omega)]; omega
            have hsm := dr_small hdr
            have c1 := EngineLockS_fn e (j : Int) hsm
            by_cases hlk : 0 < lockE e (j : Int)
            · have hok : okE e = true := by
                unfold lockE at hlk
                split at hlk
                · rename_i h; exact h.1
                · omega
              have hw := (inv_of_ok hok).wf
              have c2 := l1Empty_fn (at' e.mem (j : Int)) (hsm.mv _ (at_mem _ j (by omega)))
              have c3 := l12Took_fn e.log (lockE e (j : Int)) (j : Int) hw
              have hlk1 : (0 : Int) < (lockE e (j : Int) : Int) := by omega
              have hlk2 : (((lockE e (j : Int) : Nat) : Int) == 0) = false := by simp; omega
              clear hok hlk
              simp -implicitDefEqProofs only [go_sem, hj', hlk1, hlk2, hwj]
              (repeat' (first | ((with_reducible first | refine gon ?_ ?_ | refine gos ?_ ?_ | refine cdn ?_ ?_ | refine cds ?_ ?_ | refine gpn ?_ ?_ | refine gps ?_ ?_) <;> intro h <;> (try simp only [dt, df, gi, gt] at h) <;> try simp -implicitDefEqProofs only [go_sem, *]) | ((with_reducible refine And.intro ?_ ?_); (· first | omega | (simp only [List.length_take]; omega)); try simp -implicitDefEqProofs only [go_sem, *]) | first | ((with_reducible refine enter_pu (c1) ?_ ?_ ?_); (· rfl); (· rfl); try simp -implicitDefEqProofs only [go_sem, *]) | ((with_reducible refine enter_pu (c2) ?_ ?_ ?_); (· rfl); (· rfl); try simp -implicitDefEqProofs only [go_sem, *]) | ((with_reducible refine enter_pu (c3) ?_ ?_ ?_); (· rfl); (· rfl); try simp -implicitDefEqProofs only [go_sem, *]) | fail))
              all_goals first
                | exact fin_dcl hdr hv3
                | ((refine ⟨(j + 1, p), ⟨by simp only; omega, by simp only; omega⟩, by simp only; omega, ?_⟩); refine wk_tm ?_; repeat (first | exact WL.nil | (with_reducible refine WL.any _ _ _ ?_) | (with_reducible refine WL.same _ _ _ ?_) | (refine WL.eq _ _ _ _ rfl ?_)))
            · have hlk0 : lockE e (j : Int) = 0 := by omega
              rw [hlk0] at c1
              have c4 := ChangeOwnS_fn e 1 (j : Int) 1 hsm
              have hown := ownD_dr (e := e) (tx := 1) (page := (j : Int)) (table := 1)
              obtain ⟨⟨q1, b⟩, hq⟩ : ∃ q, ownD e 1 (j : Int) 1 = q := ⟨_, rfl⟩
              rw [hq] at c4 hown
              simp only at c4 hown
              clear hlk hlk0 hq
              have hz : ((((0 : Nat) : Int)) == 0) = true := rfl
              have hz2 : ¬ ((0 : Int) < ((0 : Nat) : Int)) := by omega
              simp -implicitDefEqProofs only [go_sem, hj', hwj, hz, hz2]
              (repeat' (first | ((with_reducible first | refine gon ?_ ?_ | refine gos ?_ ?_ | refine cdn ?_ ?_ | refine cds ?_ ?_ | refine gpn ?_ ?_ | refine gps ?_ ?_) <;> intro h <;> (try simp only [dt, df, gi, gt] at h) <;> try simp -implicitDefEqProofs only [go_sem, *]) | ((with_reducible refine And.intro ?_ ?_); (· first | omega | (simp only [List.length_take]; omega)); try simp -implicitDefEqProofs only [go_sem, *]) | first | ((with_reducible refine enter_pu (c1) ?_ ?_ ?_); (· rfl); (· rfl); try simp -implicitDefEqProofs only [go_sem, *]) | ((with_reducible refine enter_pu (c4) ?_ ?_ ?_); (· rfl); (· rfl); try simp -implicitDefEqProofs only [go_sem, *]) | ((refine pick_atI (i := 1) hC rfl ?_ ?_ ?_); (· omega); (· first | decide | omega); rintro k4 hk4; try simp -implicitDefEqProofs only [go_sem, *]) | fail))
              all_goals first
                | exact fin_dcl (hown ‹_›) hv3
                | ((refine ⟨(j + 1, p), ⟨by simp only; omega, by simp only; omega⟩, by simp only; omega, ?_⟩); (refine wk_tm ?_; repeat (first | exact WL.nil | (with_reducible refine WL.any _ _ _ ?_) | (with_reducible refine WL.same _ _ _ ?_) | (refine WL.eq _ _ _ _ rfl ?_))); done)
                | ((refine ⟨(j + 1, p + 1), ⟨by simp only; omega, by simp only; omega⟩, by simp only; omega, ?_⟩); (refine wk_tm ?_; repeat (first | exact WL.nil | (with_reducible refine WL.any _ _ _ ?_) | (with_reducible refine WL.same _ _ _ ?_) | (refine WL.eq _ _ _ _ rfl ?_))); done)
                | ((refine ⟨(j + 1, p + 1), ⟨by simp only; omega, by simp only; omega⟩, by simp only; omega, ?_⟩);
                   (refine WkN.trans (wk_tm ?_) (wk_trunc (S := [_, oR l' (p + 1), some ⟨1, vals.map I⟩, some ⟨5, [eA e]⟩]) (Nat.le_refl _) rfl (by first | rfl | (simp only [sltB, List.all_cons, List.all_nil, slt_p, slt_I, slt_r, Bool.and_true]; done) | (simp only [sltB, List.all_cons, List.all_nil, slt_p, slt_I, slt_r, Bool.and_true]; rfl)))); (repeat (first | exact WL.nil | (with_reducible refine WL.any _ _ _ ?_) | (with_reducible refine WL.same _ _ _ ?_) | (refine WL.eq _ _ _ _ rfl ?_))); done)
          · have hj' : ¬ (j : Int) < 5 := by omega
            have hwi : IntKind.i64.wrap ((i : Int) + 1) = ((i + 1 : Nat) : Int) := by rw [wrap_ok (by omega) (by omega)]; omega
            simp -implicitDefEqProofs only [go_sem, hj']
            (repeat' (first | ((with_reducible first | refine gon ?_ ?_ | refine gos ?_ ?_ | refine cdn ?_ ?_ | refine cds ?_ ?_ | refine gpn ?_ ?_ | refine gps ?_ ?_) <;> intro h <;> (try simp only [dt, df, gi, gt] at h) <;> try simp -implicitDefEqProofs only [go_sem, *]) | ((with_reducible refine And.intro ?_ ?_); (· first | omega | (simp only [List.length_take]; omega)); try simp -implicitDefEqProofs only [go_sem, *]) | first | ((with_reducible refine at_readerI (i := 1) ?_ (l72Up_c l' p hC (by omega)) (fun _ _ => rfl) ?_); (· rfl); rintro ⟨e2, p3⟩ ⟨g0, g1, g2⟩; simp only at *; try simp -implicitDefEqProofs only [go_sem, *]) | fail))
            refine ⟨(i + 1, e2, p3), ⟨by simp only; omega, g0, by simp only; omega⟩, by simp only; omega, ?_⟩
            refine wk_tm ?_; repeat (first | exact WL.nil | (with_reducible refine WL.any _ _ _ ?_) | (with_reducible refine WL.same _ _ _ ?_) | (refine WL.eq _ _ _ _ rfl ?_))
      · refine ⟨(e, p + 1), ⟨hdr, by simp only; omega⟩, ?_⟩
        refine wk_tm ?_; repeat (first | exact WL.nil | (with_reducible refine WL.any _ _ _ ?_) | (with_reducible refine WL.same _ _ _ ?_) | (refine WL.eq _ _ _ _ rfl ?_))
    · have hi' : ¬ (i : Int) < 5 := by omega
      simp -implicitDefEqProofs only [go_sem, hi']
      refine ⟨(e, p), ⟨hdr, by simp only; omega⟩, ?_⟩
      refine wk_tm ?_; repeat (first | exact WL.nil | (with_reducible refine WL.any _ _ _ ?_) | (with_reducible refine WL.same _ _ _ ?_) | (refine WL.eq _ _ _ _ rfl ?_))
end
end Go.Proofs.YtjdebcankncfaabGreat.Am
end
section
set_option linter.unusedVariables false
set_option linter.unusedSimpArgs false
set_option maxRecDepth 100000
set_option maxHeartbeats 8000000
namespace Go.Proofs.YtjdebcankncfaabGreat.Am
open Go Go.RowKit Go.Proofs
attribute [local congr] opsP_congr codeP_congr AWP_congr afterR_congr preP_congr afterPre_congr gPre_congr gOps_congr condP_congr stepE_congr
attribute [local go_sem] ty_int ty_bool ty_str ty_u8 ty_ints ty_bytes ty_page ty_pages ty_lpage ty_lpages ty_rec ty_recs ty_lrec ty_lrecs ty_eng ty_leng
attribute [local go_sem] true_and and_true beq_true' beq_false' toNat_cast Int.natCast_nonneg Bool.not_not Bool.not_true Bool.not_false decide_true decide_false Bool.or_false Bool.false_or Bool.or_true Bool.true_or Bool.and_false Bool.false_and Nat.zero_add Int.toNat_of_nonneg wrap_succ wrap_m1 wrap_nat succ_m1 cast0 succ_pos' succ_ne' succ_bne' ge_iff_le gt_iff_lt if_true if_false
section
attribute [local go_sem] slt_r slt_I slt_p ty_rd ty_ev ty_evs
end
section
attribute [local go_sem] slt_r slt_I slt_p ty_rd ty_ev ty_evs yieldR_idx'
theorem took_has {l : List Rc} {tx page : Int} (h : tookB l tx page = true) : hasIn l tx page = true := by
  unfold tookB at h
  unfold hasIn
  rw [List.any_eq_true] at h ⊢
  obtain ⟨n, hn, h2⟩ := h
  simp only [Bool.and_eq_true] at h2
  exact ⟨n, hn, h2.1.2⟩
end
section
attribute [local go_sem] slt_r slt_I slt_p ty_rd ty_ev ty_evs yieldR_idx'
end
end Go.Proofs.YtjdebcankncfaabGreat.Am
end
section
set_option linter.unusedVariables false
set_option linter.unusedSimpArgs false
set_option maxRecDepth 100000
set_option maxHeartbeats 8000000
namespace Go.Proofs.YtjdebcankncfaabGreat.Am
open Go Go.RowKit Go.Proofs
attribute [local go_sem_proc] Nat.reduceAdd Nat.reduceSub Nat.reduceMul Nat.reduceLT Nat.reduceLeDiff Nat.reduceEqDiff Int.reduceBEq Int.reduceBNe Int.reduceNeg Int.reduceSub Int.reduceLE Int.reduceLT
attribute [local go_sem_proc ↓] reduceIte
attribute [local congr] opsP_congr codeP_congr AWP_congr afterR_congr preP_congr afterPre_congr gPre_congr gOps_congr condP_congr stepE_congr
attribute [local go_sem] ty_int ty_bool ty_str ty_u8 ty_ints ty_bytes ty_page ty_pages ty_lpage ty_lpages ty_rec ty_recs ty_lrec ty_lrecs ty_eng ty_leng
attribute [local go_sem] true_and and_true beq_true' beq_false' toNat_cast Int.natCast_nonneg Bool.not_not Bool.not_true Bool.not_false decide_true decide_false Bool.or_false Bool.false_or Bool.or_true Bool.true_or Bool.and_false Bool.false_and Nat.zero_add Int.toNat_of_nonneg wrap_succ wrap_m1 wrap_nat succ_m1 cast0 succ_pos' succ_ne' succ_bne' ge_iff_le gt_iff_lt if_true if_false
attribute [local go_sem] slt_r slt_I slt_p ty_rd ty_ev ty_evs
theorem LogLastI_fn (l : List Rc) (tx : Int) (hok : logOk l = true) : Fn1 Tryz.prog 14 [recs l, I tx] (I ((lastN l tx : Nat) : Int)) := by
  have c1 := LogOkI_fn recC l (by have := logOk_len hok; omega)
  rw [hok] at c1
  have c2 := lastC l tx (by have := logOk_len hok; omega)
  refine fn1_of Tryz.func14 rfl rfl ?_
  simp -implicitDefEqProofs only [go_sem, Tryz.f14]
  (repeat' (first | ((with_reducible first | refine gon ?_ ?_ | refine gos ?_ ?_ | refine cdn ?_ ?_ | refine cds ?_ ?_ | refine gpn ?_ ?_ | refine gps ?_ ?_) <;> intro h <;> (try simp only [dt, df, gi, gt] at h) <;> try simp -implicitDefEqProofs only [go_sem, *]) | ((with_reducible refine And.intro ?_ ?_); (· first | omega | (simp only [List.length_take]; omega)); try simp -implicitDefEqProofs only [go_sem, *]) | first | ((with_reducible refine enter_pu (c1) ?_ ?_ ?_); (· rfl); (· rfl); try simp -implicitDefEqProofs only [go_sem, *]) | ((with_reducible refine enter_pu (c2) ?_ ?_ ?_); (· rfl); (· rfl); try simp -implicitDefEqProofs only [go_sem, *])))
  exact fin_pu rfl rfl
end Go.Proofs.YtjdebcankncfaabGreat.Am
end
section
set_option linter.unusedVariables false
set_option linter.unusedSimpArgs false
set_option maxRecDepth 100000
set_option maxHeartbeats 8000000
namespace Go.Proofs.YtjdebcankncfaabGreat.Am
open Go Go.RowKit Go.Proofs
attribute [local congr] opsP_congr codeP_congr AWP_congr afterR_congr preP_congr afterPre_congr gPre_congr gOps_congr condP_congr stepE_congr
attribute [local go_sem] ty_int ty_bool ty_str ty_u8 ty_ints ty_bytes ty_page ty_pages ty_lpage ty_lpages ty_rec ty_recs ty_lrec ty_lrecs ty_eng ty_leng
attribute [local go_sem] true_and and_true beq_true' beq_false' toNat_cast Int.natCast_nonneg Bool.not_not Bool.not_true Bool.not_false decide_true decide_false Bool.or_false Bool.false_or Bool.or_true Bool.true_or Bool.and_false Bool.false_and Nat.zero_add Int.toNat_of_nonneg wrap_succ wrap_m1 wrap_nat succ_m1 cast0 succ_pos' succ_ne' succ_bne' ge_iff_le gt_iff_lt if_true if_false
attribute [local go_sem] slt_r slt_I slt_p ty_rd ty_ev ty_evs
section
variable {l : List Rc} {r : Rc}
theorem redoTo_appL (ps : List Pg) : ∀ n, n ≤ l.length → redoTo ps (l ++ [r]) n = redoTo ps l n
  | 0, _ => rfl
  | n + 1, h => by
    unfold redoTo
    rw [redoTo_appL ps n (by omega), at_app_l l r (by omega)]
theorem redoTo_appR (ps : List Pg) (h3 : r.kind = 3) : redoTo ps (l ++ [r]) (l.length + 1) = redoTo ps l l.length := by
  unfold redoTo
  rw [redoTo_appL ps l.length (Nat.le_refl _), at_app_n]
  unfold redo1
  rw [if_neg]
  · cases l.length <;> rfl
  · rintro ⟨hc, _⟩
    unfold chg at hc
    rw [h3] at hc
    exact absurd hc (by decide)
theorem chain_appR (hp : r.prev = (lastN l r.tx : Int)) : chain (l ++ [r]) (l.length + 1) = (l.length + 1) :: chain l (lastN l r.tx) := by
  have hle := lastN_le l r.tx
  rw [chain_succ (by rw [at_app_n]; exact hp) hle, chain_agree _ ((agree_app l r).mono hle)]
theorem lastN_appR (h3 : r.kind = 3) (t : Int) : lastN (l ++ [r]) t = if r.tx = t then l.length + 1 else lastN l t := by
  rw [lastN_app]
  have : r.ends = false := by unfold Rc.ends; rw [h3]; rfl
  rw [this]
  rfl
/-- What holds of a record of the chain of a transaction, in the longer log. -/
theorem any_appR (hw : Wf l) (h3 : r.kind = 3) (hp : r.prev = (lastN l r.tx : Int)) (F : Rc → Bool) (t : Int) :
    ((chain (l ++ [r]) (lastN (l ++ [r]) t)).any fun n => F (at' (l ++ [r]) ((n : Int) - 1))) = ((decide (r.tx = t) && F r) || (chain l (lastN l t)).any fun n => F (at' l ((n : Int) - 1))) := by
  have hsame : ∀ m, m ≤ l.length → ((chain l m).any fun n => F (at' (l ++ [r]) ((n : Int) - 1))) = (chain l m).any fun n => F (at' l ((n : Int) - 1)) := fun m hm => by
    rw [Bool.eq_iff_iff, List.any_eq_true, List.any_eq_true]
    have hk : ∀ n ∈ chain l m, at' (l ++ [r]) ((n : Int) - 1) = at' l ((n : Int) - 1) := fun n hn => by
      obtain ⟨b, rfl, hb⟩ := chain_memP hw m hm hn
      rw [show (((b + 1 : Nat) : Int) - 1) = (b : Int) by omega]
      exact at_app_l l r (by omega)
    constructor
    · rintro ⟨n, hn, h⟩
      exact ⟨n, hn, by rw [← hk n hn]; exact h⟩
    · rintro ⟨n, hn, h⟩
      exact ⟨n, hn, by rw [hk n hn]; exact h⟩
  rw [lastN_appR h3]
  by_cases ht : r.tx = t
  · rw [if_pos ht, chain_appR hp, List.any_cons, hsame _ (lastN_le _ _), decide_eq_true ht, ht, Bool.true_and]
    rw [show (((l.length + 1 : Nat) : Int) - 1) = (l.length : Int) by omega, at_app_n]
  · rw [if_neg ht, decide_eq_false ht, Bool.false_and, Bool.false_or, chain_agree _ ((agree_app l r).mono (lastN_le l t)), hsame _ (lastN_le _ _)]
theorem hasIn_appR (hw : Wf l) (h3 : r.kind = 3) (hp : r.prev = (lastN l r.tx : Int)) (hh : hasIn l r.tx r.page = true) (t p : Int) : hasIn (l ++ [r]) t p = hasIn l t p := by
  have := any_appR hw h3 hp (fun x => decide (x.page = p)) t
  unfold hasIn at this ⊢
  rw [this]
  by_cases h : r.tx = t ∧ r.page = p
  · obtain ⟨rfl, rfl⟩ := h
    unfold hasIn at hh
    rw [hh, Bool.or_true]
  · have : (decide (r.tx = t) && decide (r.page = p)) = false := by
      rw [← Bool.not_eq_true]
      intro h2
      simp only [Bool.and_eq_true, decide_eq_true_eq] at h2
      exact h h2
    rw [this, Bool.false_or]
theorem heldTo_appR (hw : Wf l) (h3 : r.kind = 3) (hp : r.prev = (lastN l r.tx : Int)) (hh : hasIn l r.tx r.page = true) (p : Int) : ∀ n, heldTo (l ++ [r]) p n = heldTo l p n
  | 0 => rfl
  | n + 1 => by rw [heldTo, heldTo, heldTo_appR hw h3 hp hh p n, hasIn_appR hw h3 hp hh]
theorem loadIn_appR (hw : Wf l) (h3 : r.kind = 3) (hp : r.prev = (lastN l r.tx : Int)) (t p : Int) : loadIn (l ++ [r]) t p = ((decide (r.tx = t) && decide (r.page = p)) || loadIn l t p) := by
  have := any_appR hw h3 hp (fun x => decide (x.kind = 3) && decide (x.page = p)) t
  unfold loadIn at this ⊢
  rw [this, decide_eq_true h3, Bool.true_and]
theorem undosN_appR (hw : Wf (l ++ [r])) (h3 : r.kind = 3) (hp : r.prev = (lastN l r.tx : Int)) (t : Int) : undosN (l ++ [r]) (lastN (l ++ [r]) t) = undosN l (lastN l t) := by
  have hle := lastN_le l t
  rw [lastN_appR h3]
  by_cases ht : r.tx = t
  · subst ht
    rw [if_pos rfl, undosN_back (m := lastN l r.tx) hw (by simp) (backN_prev (by rw [at_app_n, h3]; decide) (by rw [at_app_n, h3]; decide) (by rw [at_app_n, h3]; decide) (by rw [at_app_n]; exact hp) hle)]
    exact undosN_agree _ ((agree_app l r).mono hle)
  · rw [if_neg ht]
    exact undosN_agree _ ((agree_app l r).mono hle)
theorem undoAll_appR : ∀ (us : List Nat) (q : List Pg), (∀ n ∈ us, ∃ b, n = b + 1 ∧ b < l.length) → undoAll (l ++ [r]) q us = undoAll l q us
  | [], q, _ => rfl
  | n :: us, q, h => by
    obtain ⟨b, rfl, hb⟩ := h n (by simp)
    have e1 : undoP (l ++ [r]) q b = undoP l q b := by unfold undoP; rw [at_app_l l r hb]
    rcases hu : (undoP l q b).ok with _ | _
    · rw [undoAll_no hu, undoAll_no (by rw [e1]; exact hu)]
    · rw [undoAll_ok hu, undoAll_ok (by rw [e1]; exact hu), e1, at_app_l l r hb]
      exact undoAll_appR us _ fun n hn => h n (by simp [hn])
theorem undoFrom_appR (hw : Wf l) (hw2 : Wf (l ++ [r])) (h3 : r.kind = 3) (hp : r.prev = (lastN l r.tx : Int)) (q : List Pg) (t : Nat) : undoFrom (l ++ [r]) q t = undoFrom l q t := by
  induction hm : 3 - t generalizing t q with
  | zero => rw [undoFrom_ge (by omega), undoFrom_ge (by omega)]
  | succ m ih =>
    rw [undoFrom_lt (by omega), undoFrom_lt (by omega), undosN_appR hw2 h3 hp, undoAll_appR _ _ fun n hn => undosN_mem hw _ (lastN_le _ _) hn]
    congr 1
    funext q'
    exact ih q' (t + 1) (by omega)
theorem pageTo_appL (p : Int) : ∀ n, n ≤ l.length → pageTo (l ++ [r]) p n = pageTo l p n
  | 0, _ => rfl
  | n + 1, h => by rw [pageTo, pageTo, pageTo_appL p n (by omega), at_app_l l r (by omega)]
end
theorem load_ok {e : Eng} (h : okE e = true) {tx : Int} {k : Nat} {vals : List Int} (hk : k < 5) (hld : e.loadB tx k vals = true) (hf : e.fits (ldR tx k) = true) : okE (e.laid tx k vals) = true := by
  have ho := okE_iff.1 h
  have hv := inv_of_ok h
  have hw := hv.wf
  have hl2 := hld
  unfold Eng.loadB at hl2
  simp only [Bool.and_eq_true, decide_eq_true_eq] at hl2
  obtain ⟨⟨⟨⟨⟨hm, hv3⟩, how⟩, hem⟩, htk⟩, hvb⟩ := hl2
  obtain ⟨hd, ht, _⟩ := mayB_iff hm
  have hc := can_load hv hm
  have hw2 := can_wf hv hc
  have hi2 : Inv (e.laid tx k vals) := by
    have := load_inv hv tx k vals
    rw [show e.load tx k vals = (e.laid tx k vals, true) by unfold Eng.load; rw [if_pos hld, if_pos hf]] at this
    exact this
  have h3 : (e.rc (ldR tx k)).kind = 3 := rfl
  have hp : (e.rc (ldR tx k)).prev = (lastN e.log (e.rc (ldR tx k)).tx : Int) := rfl
  have hh : hasIn e.log (e.rc (ldR tx k)).tx (e.rc (ldR tx k)).page = true := took_has htk
  have htx : (e.rc (ldR tx k)).tx = tx := rfl
  have hpg : (e.rc (ldR tx k)).page = (k : Int) := rfl
  have hown := mem_own h hd hk
  have hsf := ho.safe
  have hm5 := hv.mem.len
  have hal := alog_len e (ldR tx k)
  have hlen : e.log.length + 1 ≤ 150 := by
    have : (e.alog (ldR tx k)).length + needTo (e.alog (ldR tx k)) 3 ≤ 150 := by simpa [Eng.fits] using hf
    omega
  have hrg := (hv.mem.rg k hk).own
  have e0 : e.laid tx k vals = ⟨e.disk, e.mem.set k ⟨((e.log.length + 1 : Nat) : Int), (at' e.mem (k : Int)).owner, vals⟩, e.log ++ [e.rc (ldR tx k)], e.safe, e.down⟩ := by
    unfold Eng.laid
    rw [hal]
    rfl
  have hset : ∀ x : Pg, ∀ j : Nat, j < 5 → at' (e.mem.set k x) (j : Int) = if j = k then x else at' e.mem (j : Int) := fun x j hj => at_set _ _ _ _ (by omega)
  have hnew : (⟨((e.log.length + 1 : Nat) : Int), (at' e.mem (k : Int)).owner, vals⟩ : Pg).ok = true := by
    rw [good_iff hv3]
    refine ⟨⟨by simp only; omega, by simp only; omega⟩, hrg, fun j hj => ⟨?_, .inl how⟩⟩
    unfold valsB isIn at hvb
    rw [allFrom_iff] at hvb
    have := hvb j (Nat.zero_le _) (by omega)
    simpa using this
  have hlog2 : logOk (e.log ++ [e.rc (ldR tx k)]) = true := by
    have := hi2.log
    rw [e0] at this
    exact this
  have hroom2 : (e.log ++ [e.rc (ldR tx k)]).length + needTo (e.log ++ [e.rc (ldR tx k)]) 3 ≤ 150 := by
    have := hi2.room
    rw [e0] at this
    exact this
  have hredo : redoTo e.disk (e.log ++ [e.rc (ldR tx k)]) (e.log ++ [e.rc (ldR tx k)]).length = e.redo := by
    rw [show (e.log ++ [e.rc (ldR tx k)]).length = e.log.length + 1 by simp]
    exact redoTo_appR e.disk h3
  rw [e0]
  refine okE_iff.2 ⟨ho.disk, pgsOk_iff.2 ⟨by rw [List.length_set]; exact hm5, fun j hj => ?_⟩, hlog2, ⟨hsf.1, by simp only [List.length_append, List.length_singleton]; omega⟩, hroom2, fun n h1 h2 => ?_, fun p hp5 => ?_⟩
  · simp only
    rw [hset _ j hj]
    split
    · exact hnew
    · exact (pgsOk_iff.1 ho.mem).2 j hj
  · simp only [List.length_append, List.length_singleton] at h1 h2
    by_cases hn : n ≤ e.log.length
    · have hpre := ho.pre n h1 (by omega)
      unfold preB at hpre ⊢
      simp only at hpre ⊢
      rw [redoTo_appL e.disk n hn, List.take_append_of_le_length hn]
      exact hpre
    · obtain rfl : n = e.log.length + 1 := by omega
      have hpre := ho.pre e.log.length (by omega) (by omega)
      unfold preB at hpre ⊢
      simp only at hpre ⊢
      rw [redoTo_appR e.disk h3, List.take_of_length_le (by simp)]
      rw [List.take_of_length_le (Nat.le_refl _)] at hpre
      unfold undoneB at hpre ⊢
      rw [undoFrom_appR hw hw2 h3 hp]
      exact hpre
  · obtain ⟨g1, g2, g3⟩ := pgB_iff.1 (ho.pg p hp5)
    refine pgB_iff.2 ⟨g1, ?_, ?_⟩
    · simp only
      rw [hd, if_neg (by simp)]
      rw [hd, if_neg (by simp)] at g2
      unfold memB freshB Eng.redo at g2 ⊢
      simp only at g2 ⊢
      rw [hredo, hset _ p hp5]
      have hld2 : loadedIn (e.log ++ [e.rc (ldR tx k)]) (p : Int) = (decide (p = k) || loadedIn e.log (p : Int)) := by
        unfold loadedIn
        rw [Bool.eq_iff_iff, Bool.or_eq_true, anyFrom_iff, anyFrom_iff]
        simp only [loadIn_appR hw h3 hp, Bool.or_eq_true, Bool.and_eq_true, decide_eq_true_eq, htx, hpg]
        constructor
        · rintro ⟨t, a1, a2, ⟨_, a3⟩ | a3⟩
          · exact .inl (by omega)
          · exact .inr ⟨t, a1, a2, a3⟩
        · rintro (rfl | ⟨t, a1, a2, a3⟩)
          · exact ⟨tx.toNat - 1, Nat.zero_le _, by omega, .inl ⟨by omega, rfl⟩⟩
          · exact ⟨t, a1, a2, .inr a3⟩
      have hpt : pageTo (e.log ++ [e.rc (ldR tx k)]) (p : Int) (e.log ++ [e.rc (ldR tx k)]).length = if p = k then e.log.length + 1 else pageTo e.log (p : Int) e.log.length := by
        rw [show (e.log ++ [e.rc (ldR tx k)]).length = e.log.length + 1 by simp, pageTo, at_app_n, hpg, pageTo_appL (p : Int) _ (Nat.le_refl _)]
        by_cases hpk : p = k
        · rw [if_pos hpk, if_pos ⟨by omega, .inr h3⟩]
        · rw [if_neg hpk, if_neg (by rintro ⟨a, _⟩; omega)]
      rw [hld2, hpt]
      by_cases hpk : p = k
      · subst hpk
        have hd3 : (at' e.disk (p : Int)).lsn < ((e.log.length + 1 : Nat) : Int) := by omega
        simp only [if_pos rfl, decide_true, Bool.true_or, if_true]
        rw [hown, decide_eq_true hd3]
        simp [Eng.redo]
      · rw [if_neg hpk, if_neg hpk, decide_eq_false hpk, Bool.false_or]
        exact g2
    · simp only
      rw [heldTo_appR hw h3 hp hh]
      exact g3
end Go.Proofs.YtjdebcankncfaabGreat.Am
end
