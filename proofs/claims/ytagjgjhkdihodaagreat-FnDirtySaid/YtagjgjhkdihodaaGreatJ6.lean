/- Lemmas and walks: Go Ha Ob Hb Hc Hd Ia Ja Jb Jc Jd Je Jf Jg Jh. No conditions. -/
import Derived.Test.YtagjgjhkdihodaaGreatJ5
import Derived.Test.YtagjgjhkdihodaaGreatJ2
import Derived.Laws.Strings
section
set_option linter.unusedVariables false
set_option linter.unusedSimpArgs false
set_option maxRecDepth 100000
set_option maxHeartbeats 8000000
namespace Go.Proofs.YtagjgjhkdihodaaGreat.Am
open Go Go.RowKit Go.Proofs
attribute [local go_sem_proc] Nat.reduceAdd Nat.reduceSub Nat.reduceMul Nat.reduceLT Nat.reduceLeDiff Nat.reduceEqDiff Int.reduceBEq Int.reduceBNe Int.reduceNeg Int.reduceSub Int.reduceLE Int.reduceLT
attribute [local go_sem_proc ↓] reduceIte
attribute [local congr] opsP_congr codeP_congr AWP_congr afterR_congr preP_congr afterPre_congr gPre_congr gOps_congr condP_congr stepE_congr
attribute [local go_sem] ty_int ty_bool ty_str ty_u8 ty_ints ty_bytes ty_page ty_pages ty_lpage ty_lpages ty_rec ty_recs ty_lrec ty_lrecs ty_eng ty_leng
attribute [local go_sem] true_and and_true beq_true' beq_false' toNat_cast Int.natCast_nonneg Bool.not_not Bool.not_true Bool.not_false decide_true decide_false Bool.or_false Bool.false_or Bool.or_true Bool.true_or Bool.and_false Bool.false_and Nat.zero_add Int.toNat_of_nonneg wrap_succ wrap_m1 wrap_nat succ_m1 cast0 succ_pos' succ_ne' succ_bne' ge_iff_le gt_iff_lt if_true if_false
attribute [local go_sem] slt_r slt_I slt_p ty_rd ty_ev ty_evs
@[go_sem] theorem rho0 {n i : Nat} : rho [] n i = n + i := by simp [rho]
theorem at_readerI {i : Nat} {f : FuncId} {l : List Int} {p : Nat} {X : Type} {J : X → Prop} {R : X → AV} {pos : X → Nat} {d : Tmp} {tm : List AV} {T : Store} {mv : List Nat} {K : St → Prop} (hi : T[i]? = some (oR l p)) (h : AFnX Tryz.prog f [.ref 0 2 0 0] [oR l p] J R (fun q => [oR l (pos q)]) [])
    (hR : ∀ q ρ, (R q).rn ρ = R q) (hk : ∀ q, J q → K ⟨tm.set d (R q), T.set i (oR l (pos q)), mv⟩) : afterR Tryz.prog (.enter f [.ref i 2 0 0]) (some d) ⟨tm, T, mv⟩ K := by
  refine enter_at [i] (M2 := []) h (by simp) (.cons _ _ _ _ _ hi rfl (a2_1 rfl) .nil) (.cons _ _ _ _ (rnT_ref rfl) .nil) rfl fun q hq => ?_
  have := hk q hq
  rw [hR]
  simpa only [scT_nil, scS_nil, putS_cons, putS_nil, rnO_agg, rn0_sl, rn0_prim, List.map_cons, List.map_nil, List.nil_append] using this
theorem pick_atI {i : Nat} {l : List Int} {p : Nat} {n : Int} {d : Tmp} {tm : List AV} {T : Store} {mv : List Nat} {K : St → Prop} (h : Cod l) (hi : T[i]? = some (oR l p)) (hp : p < 1000000) (hn : 1 ≤ n) (hk : ∀ k, PickJ n k → K ⟨tm.set d (I k), T.set i (oR l (p + 1)), mv⟩) :
    afterR Tryz.prog (.enter 57 [.ref i 2 0 0, I n]) (some d) ⟨tm, T, mv⟩ K := by
  refine enter_at [i] (M2 := []) (pick_c' h hp hn) (by simp) (.cons _ _ _ _ _ hi rfl (a2_1 rfl) .nil) (.cons _ _ _ _ (rnT_ref rfl) (.cons _ _ _ _ rnT_prim .nil)) rfl fun k hk' => ?_
  have := hk k hk'
  simpa only [scT_nil, scS_nil, putS_cons, putS_nil, rn_prim, rnO_agg, rn0_sl, rn0_prim, List.map_cons, List.map_nil, List.nil_append] using this
/-- What a drawn engine is like. -/
structure Eng.dr (e : Eng) : Prop where
  disk : e.disk.length = 5
  mem : e.mem.length = 5
  log : e.log.length ≤ 152
  dv : ∀ p ∈ e.disk, p.vals.length ≤ 3
  mv : ∀ p ∈ e.mem, p.vals.length ≤ 3
theorem rgs_vals {ps : List Pg} (h : Rgs ps) : ∀ p ∈ ps, p.vals.length ≤ 3 := fun p hp => by
  obtain ⟨k, hk, rfl⟩ := mem_at hp
  have := (h.rg k (by rw [h.len] at hk; exact hk)).len
  omega
theorem dr_of {e : Eng} (h : Inv e) : e.dr := ⟨h.disk.len, h.mem.len, by have := h.len; omega, rgs_vals h.disk, rgs_vals h.mem⟩
theorem rd_pgs {K : List Nat} {S : Store} {n0 i : Nat} {ps : List Pg} (hi : n0 ≤ i) (hK : i ∉ K) (ho : getO S i = some ⟨3, ps.map pA⟩) (hl : ps.length = 5) : Rd0 K S n0 (.own i 3 0 5) (pgs ps) :=
  .drop i 3 0 5 _ _ hi hK ho rfl (by simp [hl]) (by have := isDs_p ps; simpa [List.take_of_length_le, hl] using this)
theorem rd_recs {K : List Nat} {S : Store} {n0 i n : Nat} {l : List Rc} (hi : n0 ≤ i) (hK : i ∉ K) (ho : getO S i = some ⟨8, l.map rA⟩) (hl : n = l.length) : Rd0 K S n0 (.own i 8 0 n) (recs l) := dropR hi hK ho hl
theorem fin_eng {l : List Int} {T : Store} {p p' : Nat} {a b : List Pg} {c : List Rc} {s : Int} {d : Bool} {x : AV} (h2 : getO (oR l p' :: T) 2 = some ⟨3, a.map pA⟩) (h3 : getO (oR l p' :: T) 3 = some ⟨3, b.map pA⟩) (hx : Rd0 [0] (oR l p' :: T) 1 x (recs c)) (hd : (⟨a, b, c, s, d⟩ : Eng).dr) (q1 : p ≤ p') (q2 : p' ≤ p + 1800) :
    Fin 1 (.agg [.own 2 3 0 5, .own 3 3 0 5, x, I s, Bo d]) (oR l p' :: T) [] (fun r S' mv => ∃ y : Eng × Nat, (y.1.dr ∧ p ≤ y.2 ∧ y.2 ≤ p + 1800) ∧ r = eA y.1 ∧ S' = [oR l y.2] ∧ mv = []) :=
  fin_drop [0] [] (by simp) rfl (by decide) (keep1 (ob := ⟨2, [.agg [bts l, I (p' : Int)]]⟩) rfl (a2_1 rfl)) (hdR (o := ⟨2, [.agg [bts l, I (p' : Int)]]⟩) rfl (by simp) rfl rfl)
    (.of _ _ (.agg _ _ (.cons _ _ _ _ (rd_pgs (by decide) (by decide) h2 hd.disk) (.cons _ _ _ _ (rd_pgs (by decide) (by decide) h3 hd.mem) (.cons _ _ _ _ hx (.cons _ _ _ _ (.rn _ _ (.same _ rfl)) (.cons _ _ _ _ (.rn _ _ (.same _ rfl)) .nil))))))) ⟨(⟨a, b, c, s, d⟩, p'), ⟨hd, q1, q2⟩, rfl, rfl, rfl⟩
theorem dr_mem {a b : List Pg} {c : List Rc} {s s' : Int} {d d' : Bool} (h : (⟨a, b, c, s, d⟩ : Eng).dr) (k : Nat) {q : Pg} (hq : q.vals.length ≤ 3) : (⟨a, b.set k q, c, s', d'⟩ : Eng).dr :=
  ⟨h.disk, by have := h.mem; simpa using this, h.log, h.dv, fun p hp => by
    rcases List.mem_or_eq_of_mem_set hp with h1 | rfl
    · exact h.mv p h1
    · exact hq⟩
theorem dr_disk {a b : List Pg} {c : List Rc} {s s' : Int} {d d' : Bool} (h : (⟨a, b, c, s, d⟩ : Eng).dr) (k : Nat) {q : Pg} (hq : q.vals.length ≤ 3) : (⟨a.set k q, b, c, s', d'⟩ : Eng).dr :=
  ⟨by have := h.disk; simpa using this, h.mem, h.log, fun p hp => by
    rcases List.mem_or_eq_of_mem_set hp with h1 | rfl
    · exact h.dv p h1
    · exact hq, h.mv⟩
theorem dr_log {a b : List Pg} {c c' : List Rc} {s s' : Int} {d d' : Bool} (h : (⟨a, b, c, s, d⟩ : Eng).dr) (hc : c'.length ≤ 152) : (⟨a, b, c', s', d'⟩ : Eng).dr := ⟨h.disk, h.mem, hc, h.dv, h.mv⟩
theorem l72Engine_c (l : List Int) (p : Nat) (hC : Cod l) (hp : p < 600000) : AFnX Tryz.prog 119 [.ref 0 2 0 0] [oR l p] (fun q : Eng × Nat => q.1.dr ∧ p ≤ q.2 ∧ q.2 ≤ p + 1800) (fun q => eA q.1) (fun q => [oR l q.2]) [] := by
  refine afnx_of Tryz.func119 rfl rfl ?_
  simp -implicitDefEqProofs only [go_sem, Tryz.f119]
  (repeat' (first | ((with_reducible first | refine gon ?_ ?_ | refine gos ?_ ?_ | refine cdn ?_ ?_ | refine cds ?_ ?_ | refine gpn ?_ ?_ | refine gps ?_ ?_) <;> intro h <;> (try simp only [dt, df, gi, gt] at h) <;> try simp -implicitDefEqProofs only [go_sem, *]) | ((with_reducible refine And.intro ?_ ?_); (· first | omega | (simp only [List.length_take]; omega)); try simp -implicitDefEqProofs only [go_sem, *]) | ((with_reducible refine enter_at [0] (M2 := []) (l71Play_c l p hC (by omega)) (by decide) ?_ ?_ rfl ?_); (· repeat (first | exact Keeps.nil | (refine Keeps.cons _ _ _ _ _ rfl rfl ?_ ?_; (· first | exact a2_p _ _ | exact a2_1 rfl | exact a2_I _ _)))); (· repeat (first | exact All2.nil | (refine All2.cons _ _ _ _ ?_ ?_; (· first | exact rnT_eX rfl rfl | exact rnT_prim | exact rnT_sl | exact rnT_ref rfl | exact rnT_agg rfl | exact rnT_own rfl | exact rnT_eX5 rfl rfl)))); rintro ⟨⟨ca, cb, cc, cs, cd⟩, p1⟩ ⟨hic, hp1, hp2⟩; try simp -implicitDefEqProofs only [go_sem, *])))
  simp only at hic hp1 hp2
  have hcl : cc.length ≤ 150 := hic.toInv.len
  have hdr := dr_of hic.toInv
  have ha5 : ca.length = 5 := hdr.disk
  have hb5 : cb.length = 5 := hdr.mem
  have hwr : IntKind.i64.wrap ((cc.length : Int) + 2) = (cc.length : Int) + 2 := wrap_ok (by omega) (by omega)
  (repeat' (first | ((with_reducible first | refine gon ?_ ?_ | refine gos ?_ ?_ | refine cdn ?_ ?_ | refine cds ?_ ?_ | refine gpn ?_ ?_ | refine gps ?_ ?_) <;> intro h <;> (try simp only [dt, df, gi, gt] at h) <;> try simp -implicitDefEqProofs only [go_sem, *]) | ((with_reducible refine And.intro ?_ ?_); (· first | omega | (simp only [List.length_take]; omega)); try simp -implicitDefEqProofs only [go_sem, *]) | first | ((with_reducible refine pick_at hC ?_ ?_ ?_); (· omega); (· first | decide | omega); rintro k1 hk1; try simp -implicitDefEqProofs only [go_sem, *]) | ((with_reducible refine at_reader (l71Log_c l _ hC (by omega)) (fun _ _ => rfl) ?_); rintro ⟨x, p2⟩ ⟨h0, h1, h2⟩; simp only at *; try simp -implicitDefEqProofs only [go_sem, *])))
  all_goals try (refine fin_eng rfl rfl (rd_recs (by decide) (by decide) rfl rfl) (dr_log hdr (by omega)) ?_ ?_ <;> omega)
  · refine cp_drawG (id := 6) 8 (fun S => getO S 5 = some ⟨5, [eL 2 3 4 ⟨ca, cb, cc, cs, cd⟩]⟩) mixed rfl ?_
    ((refine expG_get 0 (.ref 5 5 0 1) rfl ?_ ?_ ?_ ?_ ?_); (· decide +kernel); (· decide +kernel); (· rfl); (· (intro S hS0; simp -implicitDefEqProofs only [go_sem, hS0, *])); try simp -implicitDefEqProofs only [go_sem, List.set_cons_succ, List.set_cons_zero])
    ((refine expG_get 1 (.own 3 3 0 5) rfl ?_ ?_ ?_ ?_ ?_); (· decide +kernel); (· decide +kernel); (· rfl); (· (intro S hS0; simp -implicitDefEqProofs only [go_sem, hS0, *])); try simp -implicitDefEqProofs only [go_sem, List.set_cons_succ, List.set_cons_zero])
    ((refine expG_get 2 (.ref 0 2 0 0) rfl ?_ ?_ ?_ ?_ ?_); (· decide +kernel); (· decide +kernel); (· rfl); (· (intro S hS0; simp -implicitDefEqProofs only [go_sem, hS0, *])); try simp -implicitDefEqProofs only [go_sem, List.set_cons_succ, List.set_cons_zero])
    ((refine expG_get 4 (.ref 0 2 0 0) rfl ?_ ?_ ?_ ?_ ?_); (· decide +kernel); (· decide +kernel); (· rfl); (· (intro S hS0; simp -implicitDefEqProofs only [go_sem, hS0, *])); try simp -implicitDefEqProofs only [go_sem, List.set_cons_succ, List.set_cons_zero])
    ((with_reducible refine expG_one 3 ?_ ?_); (· decide +kernel); try simp -implicitDefEqProofs only [go_sem, *])
    ((with_reducible refine pick_at hC ?_ ?_ ?_); (· omega); (· first | decide | omega); rintro k2 hk2; try simp -implicitDefEqProofs only [go_sem, *])
    have hk2' : 0 ≤ k2 ∧ k2 < 5 := hk2
    ((with_reducible refine expG_one 5 ?_ ?_); (· decide +kernel); try simp -implicitDefEqProofs only [go_sem, *])
    ((with_reducible refine at_reader (l71Page_c l _ hC (by omega)) (fun _ _ => rfl) ?_); rintro ⟨x, p2⟩ ⟨h0, h1, h2⟩; simp only at *; try simp -implicitDefEqProofs only [go_sem, *])
    (repeat' (first | ((with_reducible first | refine gon ?_ ?_ | refine gos ?_ ?_ | refine cdn ?_ ?_ | refine cds ?_ ?_ | refine gpn ?_ ?_ | refine gps ?_ ?_) <;> intro h <;> (try simp only [dt, df, gi, gt] at h) <;> try simp -implicitDefEqProofs only [go_sem, *]) | ((with_reducible refine And.intro ?_ ?_); (· first | omega | (simp only [List.length_take]; omega)); try simp -implicitDefEqProofs only [go_sem, *]) | first | ((with_reducible refine expG_one 6 ?_ ?_); (· decide +kernel); try simp -implicitDefEqProofs only [go_sem, *]) | ((with_reducible refine expG_one 7 ?_ ?_); (· decide +kernel); try simp -implicitDefEqProofs only [go_sem, *]) | ((with_reducible refine expG_end ?_ ?_); (· decide +kernel); try simp -implicitDefEqProofs only [go_sem, *])))
    refine fin_eng rfl rfl (rd_recs (by decide) (by decide) rfl rfl) (dr_mem hdr _ h0) ?_ ?_ <;> omega
  · refine cp_drawG (id := 8) 8 (fun S => getO S 5 = some ⟨5, [eL 2 3 4 ⟨ca, cb, cc, cs, cd⟩]⟩) mixed rfl ?_
    ((refine expG_get 0 (.ref 5 5 0 0) rfl ?_ ?_ ?_ ?_ ?_); (· decide +kernel); (· decide +kernel); (· rfl); (· (intro S hS0; simp -implicitDefEqProofs only [go_sem, hS0, *])); try simp -implicitDefEqProofs only [go_sem, List.set_cons_succ, List.set_cons_zero])
    ((refine expG_get 1 (.own 2 3 0 5) rfl ?_ ?_ ?_ ?_ ?_); (· decide +kernel); (· decide +kernel); (· rfl); (· (intro S hS0; simp -implicitDefEqProofs only [go_sem, hS0, *])); try simp -implicitDefEqProofs only [go_sem, List.set_cons_succ, List.set_cons_zero])
    ((refine expG_get 2 (.ref 0 2 0 0) rfl ?_ ?_ ?_ ?_ ?_); (· decide +kernel); (· decide +kernel); (· rfl); (· (intro S hS0; simp -implicitDefEqProofs only [go_sem, hS0, *])); try simp -implicitDefEqProofs only [go_sem, List.set_cons_succ, List.set_cons_zero])
    ((refine expG_get 4 (.ref 0 2 0 0) rfl ?_ ?_ ?_ ?_ ?_); (· decide +kernel); (· decide +kernel); (· rfl); (· (intro S hS0; simp -implicitDefEqProofs only [go_sem, hS0, *])); try simp -implicitDefEqProofs only [go_sem, List.set_cons_succ, List.set_cons_zero])
    ((with_reducible refine expG_one 3 ?_ ?_); (· decide +kernel); try simp -implicitDefEqProofs only [go_sem, *])
    ((with_reducible refine pick_at hC ?_ ?_ ?_); (· omega); (· first | decide | omega); rintro k2 hk2; try simp -implicitDefEqProofs only [go_sem, *])
    have hk2' : 0 ≤ k2 ∧ k2 < 5 := hk2
    ((with_reducible refine expG_one 5 ?_ ?_); (· decide +kernel); try simp -implicitDefEqProofs only [go_sem, *])
    ((with_reducible refine at_reader (l71Page_c l _ hC (by omega)) (fun _ _ => rfl) ?_); rintro ⟨x, p2⟩ ⟨h0, h1, h2⟩; simp only at *; try simp -implicitDefEqProofs only [go_sem, *])
    (repeat' (first | ((with_reducible first | refine gon ?_ ?_ | refine gos ?_ ?_ | refine cdn ?_ ?_ | refine cds ?_ ?_ | refine gpn ?_ ?_ | refine gps ?_ ?_) <;> intro h <;> (try simp only [dt, df, gi, gt] at h) <;> try simp -implicitDefEqProofs only [go_sem, *]) | ((with_reducible refine And.intro ?_ ?_); (· first | omega | (simp only [List.length_take]; omega)); try simp -implicitDefEqProofs only [go_sem, *]) | first | ((with_reducible refine expG_one 6 ?_ ?_); (· decide +kernel); try simp -implicitDefEqProofs only [go_sem, *]) | ((with_reducible refine expG_one 7 ?_ ?_); (· decide +kernel); try simp -implicitDefEqProofs only [go_sem, *]) | ((with_reducible refine expG_end ?_ ?_); (· decide +kernel); try simp -implicitDefEqProofs only [go_sem, *])))
    refine fin_eng rfl rfl (rd_recs (by decide) (by decide) rfl rfl) (dr_disk hdr _ h0) ?_ ?_ <;> omega
  all_goals (refine fin_eng rfl rfl (.rn _ _ (.same _ rfl)) (dr_log hdr (by omega)) ?_ ?_ <;> omega)
theorem l6Open_c (l : List Int) (hl : l.length < 4611686018427387904) (hb : Byt l) : AFnX Tryz.prog 55 [bts l] [] (fun l' : List Int => Cod l') (fun _ => .ref 0 2 0 0) (fun l' => [oR l' 0]) [] :=
  AFn.mono (l6Open_fn l hl hb) fun r S' mv ⟨⟨l', h1, h2, h3⟩, h4⟩ => ⟨l', h1, h2, h3, h4⟩
/-- What a drawing hands back: no object. -/
abbrev FnX (f : FuncId) (args : List AV) {X : Type} (J : X → Prop) (R : X → AV) : Prop := AFnX Tryz.prog f args [] J R (fun _ => []) []
theorem fin_drawn {r r' : AV} {S : Store} {mv : List Nat} {Q : AV → Store → List Nat → Prop} (hr : RdT [] S 0 r r') (h : Q r' [] []) : Fin 0 r S mv Q :=
  fin_drop [] [] (by simp) rfl (by decide) (fun j i h => by cases h) (fun i hi => absurd hi (Nat.not_lt_zero _)) hr h
end Go.Proofs.YtagjgjhkdihodaaGreat.Am
end
section
set_option linter.unusedVariables false
set_option linter.unusedSimpArgs false
set_option maxRecDepth 100000
set_option maxHeartbeats 8000000
namespace Go.Proofs.YtagjgjhkdihodaaGreat.Am
open Go Go.RowKit Go.Proofs
attribute [local congr] opsP_congr codeP_congr AWP_congr afterR_congr preP_congr afterPre_congr gPre_congr gOps_congr condP_congr stepE_congr
attribute [local go_sem] ty_int ty_bool ty_str ty_u8 ty_ints ty_bytes ty_page ty_pages ty_lpage ty_lpages ty_rec ty_recs ty_lrec ty_lrecs ty_eng ty_leng
attribute [local go_sem] true_and and_true beq_true' beq_false' toNat_cast Int.natCast_nonneg Bool.not_not Bool.not_true Bool.not_false decide_true decide_false Bool.or_false Bool.false_or Bool.or_true Bool.true_or Bool.and_false Bool.false_and Nat.zero_add Int.toNat_of_nonneg wrap_succ wrap_m1 wrap_nat succ_m1 cast0 succ_pos' succ_ne' succ_bne' ge_iff_le gt_iff_lt if_true if_false
attribute [local go_sem] slt_r slt_I slt_p ty_rd ty_ev ty_evs
theorem dr_small {e : Eng} (h : e.dr) : e.small := ⟨by have := h.disk; omega, by have := h.mem; omega, by have := h.log; omega, fun p hp => by have := h.dv p hp; omega, fun p hp => by have := h.mv p hp; omega⟩
theorem okI (e : Eng) (h : e.small) : Fn1 Tryz.prog 23 [eA e] (Bo (okE e)) := EngineOkI_fn lastC lastOfC recC (pagesC lastC) e h.disk h.mem h.log h.dv h.mv
theorem okS (e : Eng) (h : e.small) : Fn1 Tryz.prog 28 [eA e] (Bo (okE e)) := EngineOkS_fn e h.disk h.mem h.log
end Go.Proofs.YtagjgjhkdihodaaGreat.Am
end
section
set_option linter.unusedVariables false
set_option linter.unusedSimpArgs false
set_option maxRecDepth 100000
namespace Go.Proofs.YtagjgjhkdihodaaGreat.Am
open Go Go.RowKit Go.Proofs Go.ChangeShapes Go.WideShapes
section
variable {H : Type} {enc : TypeId × Value → H} {w : World} {μ : Nat → Nat}
theorem opens_u8 : Opens enc w μ 5 1 bD (fun n => 0 ≤ n ∧ n < 256) := by
  intro fuel cs d ps h
  cases fuel with
  | zero => simp [DataW.trod] at h
  | succ fuel =>
    unfold DataW.trod at h
    rw [Tryz.underlying5] at h
    rcases cs with _ | ⟨v, _ | ⟨u, cs⟩⟩
    · simp at h
    · cases v <;> simp only [reduceCtorEq] at h
      rename_i k n
      split at h
      · rename_i hk
        obtain ⟨rfl, hwf⟩ := hk
        refine ⟨n, rfl, ?_, fun _ => ?_⟩
        · rintro (_ | j) y hy
          · simp [bD_cells] at hy; subst hy; exact ⟨_, rfl, .prim _ rfl⟩
          · simp [bD_cells] at hy
        · have h1 : IntKind.u8.min = 0 := rfl
          have h2 : IntKind.u8.max = 255 := rfl
          simp only [Lit.wf, Bool.and_eq_true, decide_eq_true_eq] at hwf
          omega
      · cases h
    · simp at h
theorem opens_bytes : Opens enc w μ 22 1 (fun l : List Int => .sl 1 (l.map bD)) (fun l => l.length < 4611686018427387904 ∧ ∀ a ∈ l, 0 ≤ a ∧ a < 256) :=
  opens_sl opens_u8 Tryz.underlying22 (by kernel_rfl) (by decide) (Nat.le_trans (by decide) (Nat.le_of_eq (by kernel_rfl : (1 : Nat) = _))) (fun a => ⟨rfl, by simp [bD_cells]; rfl⟩)
/-- A code that is an argument. -/
theorem open_bytes {r : Reach} {b0 : Nat} {v : Value} {d : DataW H} {ps : List MemPlace} (hval : Value.okWide Tryz.prog w r b0 22 v) (hd : DataW.Trod enc Tryz.prog w 0 (fun _ => true) true 22 v d ps)
    (hw : (d.weights Tryz.prog 22).all (· ≤ reachBytes) = true) : ∃ l : List Int, l.length < 4611686018427387904 ∧ Byt l ∧ Rep okT w (fun i => i) [] (bts l) v := by
  obtain ⟨a, len, cap, rfl⟩ := okWide_slice Tryz.underlying22 hval
  obtain ⟨fuel, hf⟩ := hd
  obtain ⟨l, hl, hr, hq⟩ := opens_bytes (μ := fun i => i) _ _ _ _ hf
  obtain ⟨q1, q2⟩ := hq hw
  refine ⟨l, q1, fun k hk => q2 _ (at_mem l k hk), ?_⟩
  obtain ⟨u, hu, hR⟩ := hr 0 _ rfl
  simp [Value.cells] at hu
  subst hu
  exact .sl _ _ _ hR
end
end Go.Proofs.YtagjgjhkdihodaaGreat.Am
end
section
set_option linter.unusedVariables false
set_option linter.unusedSimpArgs false
set_option maxRecDepth 100000
set_option maxHeartbeats 8000000
namespace Go.Proofs.YtagjgjhkdihodaaGreat.Am
open Go Go.RowKit Go.Proofs
attribute [local go_sem_proc] Nat.reduceAdd Nat.reduceSub Nat.reduceMul Nat.reduceLT Nat.reduceLeDiff Nat.reduceEqDiff Int.reduceBEq Int.reduceBNe Int.reduceNeg Int.reduceSub Int.reduceLE Int.reduceLT
attribute [local go_sem_proc ↓] reduceIte
attribute [local congr] opsP_congr codeP_congr AWP_congr afterR_congr preP_congr afterPre_congr gPre_congr gOps_congr condP_congr stepE_congr
attribute [local go_sem] ty_int ty_bool ty_str ty_u8 ty_ints ty_bytes ty_page ty_pages ty_lpage ty_lpages ty_rec ty_recs ty_lrec ty_lrecs ty_eng ty_leng
attribute [local go_sem] true_and and_true beq_true' beq_false' toNat_cast Int.natCast_nonneg Bool.not_not Bool.not_true Bool.not_false decide_true decide_false Bool.or_false Bool.false_or Bool.or_true Bool.true_or Bool.and_false Bool.false_and Nat.zero_add Int.toNat_of_nonneg wrap_succ wrap_m1 wrap_nat succ_m1 cast0 succ_pos' succ_ne' succ_bne' ge_iff_le gt_iff_lt if_true if_false
attribute [local go_sem] slt_r slt_I slt_p
theorem ltInts_fn (a b : List Int) (hb : a.length < 4611686018427387904) : Fn1 Tryz.prog 26 [ints a, ints b] (Bo (sameInts a b)) := by
  refine fn1_of Tryz.func26 rfl rfl ?_
  simp -implicitDefEqProofs only [go_sem, Tryz.f26]
  (repeat' (first | ((with_reducible first | refine gon ?_ ?_ | refine gos ?_ ?_ | refine cdn ?_ ?_ | refine cds ?_ ?_ | refine gpn ?_ ?_ | refine gps ?_ ?_) <;> intro h <;> (try simp only [dt, df, gi, gt] at h) <;> try simp -implicitDefEqProofs only [go_sem, *]) | ((with_reducible refine And.intro ?_ ?_); (· first | omega | (simp only [List.length_take]; omega)); try simp -implicitDefEqProofs only [go_sem, *]) | fail))
  all_goals try ((with_reducible refine fin_pu ?_ ?_); (· (simp_all [sameInts]) <;> (first | omega | (rw [Bool.eq_iff_iff]; simp; done) | (rw [Bool.eq_iff_iff]; simp; omega) | (split <;> (first | rfl | omega | (simp_all; done))))); (· rfl))
  · have hl : a.length = b.length := by have := h; simp at this; omega
    refine cp_loop (fun i : Nat => ⟨(ints a :: ints b :: .any :: .any :: Bo false :: I (i : Int) :: .any :: .any :: .any :: .any :: .any :: .any :: .any :: .any :: .any :: .any :: .any :: .any :: .any :: .any :: .any :: .any :: .any :: .any :: .any :: .any :: []), [], []⟩) (fun i => i ≤ a.length ∧ allFrom (fun k => at' a (k : Int) == at' b (k : Int)) i a.length = sameInts a b) (fun i => a.length - i) 0 ?_ ?_ ?_
    · exact ⟨by omega, by simp [sameInts, hl]⟩
    · refine wk_tm ?_; repeat (first | exact WL.nil | (with_reducible refine WL.any _ _ _ ?_) | (with_reducible refine WL.same _ _ _ ?_) | (refine WL.eq _ _ _ _ rfl ?_))
    · rintro i ⟨hi, hg⟩
      have hbi : i < 4611686018427387904 := by omega
      simp -implicitDefEqProofs only [go_sem, true_and]
      (repeat' (first | ((with_reducible first | refine gon ?_ ?_ | refine gos ?_ ?_ | refine cdn ?_ ?_ | refine cds ?_ ?_ | refine gpn ?_ ?_ | refine gps ?_ ?_) <;> intro h <;> (try simp only [dt, df, gi, gt] at h) <;> try simp -implicitDefEqProofs only [go_sem, *]) | ((with_reducible refine And.intro ?_ ?_); (· first | omega | (simp only [List.length_take]; omega)); try simp -implicitDefEqProofs only [go_sem, *]) | ((with_reducible refine cp_draw (id := 6) 9 mixed ?_ ?_ ?_); (· decide +kernel); (· first | (simp only [List.all_cons, List.all_nil, List.length_cons, List.length_nil, Nat.reduceAdd, Nat.reduceLT, decide_true, Bool.and_true, Bool.and_self]; done) | rfl); try simp -implicitDefEqProofs only [go_sem, *])))
      all_goals first
        | ((with_reducible refine fin_pu ?_ ?_); (· (rw [← hg, allFrom_lt (by omega : i < a.length)]; clear hg; simp_all; done)); (· rfl))
        | ((with_reducible refine fin_pu ?_ ?_); (· (rw [← hg, allFrom_ge (by omega : ¬ i < a.length)]; done)); (· rfl))
        | ((with_reducible refine ⟨i + 1, ⟨by omega, ?_⟩, by omega, ?_⟩); (· (rw [← hg, allFrom_lt (by omega : i < a.length)]; clear hg; simp_all)); (· refine wk_tm ?_; repeat (first | exact WL.nil | (with_reducible refine WL.any _ _ _ ?_) | (with_reducible refine WL.same _ _ _ ?_) | (refine WL.eq _ _ _ _ rfl ?_))))
theorem ltPage_fn (p q : Pg) (hb : p.vals.length < 4611686018427387904) : Fn1 Tryz.prog 19 [pA p, pA q] (Bo (sameP p q)) := by
  refine fn1_of Tryz.func19 rfl rfl ?_
  simp -implicitDefEqProofs only [go_sem, Tryz.f19]
  (repeat' (first | ((with_reducible first | refine gon ?_ ?_ | refine gos ?_ ?_ | refine cdn ?_ ?_ | refine cds ?_ ?_ | refine gpn ?_ ?_ | refine gps ?_ ?_) <;> intro h <;> (try simp only [dt, df, gi, gt] at h) <;> try simp -implicitDefEqProofs only [go_sem, *]) | ((with_reducible refine And.intro ?_ ?_); (· first | omega | (simp only [List.length_take]; omega)); try simp -implicitDefEqProofs only [go_sem, *]) | ((with_reducible refine enter_pu (ltInts_fn p.vals q.vals hb) ?_ ?_ ?_); (· rfl); (· rfl); try simp -implicitDefEqProofs only [go_sem, *])))
  all_goals try ((with_reducible refine fin_pu ?_ ?_); (· (simp_all [sameP]) <;> (first | omega | (rw [Bool.eq_iff_iff]; simp; done) | (rw [Bool.eq_iff_iff]; simp; omega) | (split <;> (first | rfl | omega | (simp_all; done))))); (· rfl))
theorem ltPages_fn (a b : List Pg) (hb : a.length < 4611686018427387904) (hv : ∀ p ∈ a, p.vals.length < 4611686018427387904) : Fn1 Tryz.prog 21 [pgs a, pgs b] (Bo (samePs a b)) := by
  refine fn1_of Tryz.func21 rfl rfl ?_
  simp -implicitDefEqProofs only [go_sem, Tryz.f21]
  (repeat' (first | ((with_reducible first | refine gon ?_ ?_ | refine gos ?_ ?_ | refine cdn ?_ ?_ | refine cds ?_ ?_ | refine gpn ?_ ?_ | refine gps ?_ ?_) <;> intro h <;> (try simp only [dt, df, gi, gt] at h) <;> try simp -implicitDefEqProofs only [go_sem, *]) | ((with_reducible refine And.intro ?_ ?_); (· first | omega | (simp only [List.length_take]; omega)); try simp -implicitDefEqProofs only [go_sem, *]) | fail))
  all_goals try ((with_reducible refine fin_pu ?_ ?_); (· (simp_all [samePs]) <;> (first | omega | (rw [Bool.eq_iff_iff]; simp; done) | (rw [Bool.eq_iff_iff]; simp; omega) | (split <;> (first | rfl | omega | (simp_all; done))))); (· rfl))
  · have hl : a.length = b.length := by have := h; simp at this; omega
    refine cp_loop (fun i : Nat => ⟨(pgs a :: pgs b :: .any :: .any :: Bo false :: I (i : Int) :: .any :: .any :: .any :: .any :: .any :: .any :: .any :: .any :: .any :: .any :: .any :: .any :: .any :: .any :: .any :: .any :: .any :: .any :: .any :: .any :: .any :: []), [], []⟩) (fun i => i ≤ a.length ∧ allFrom (fun k => sameP (at' a (k : Int)) (at' b (k : Int))) i a.length = samePs a b) (fun i => a.length - i) 0 ?_ ?_ ?_
    · exact ⟨by omega, by simp [samePs, hl]⟩
    · refine wk_tm ?_; repeat (first | exact WL.nil | (with_reducible refine WL.any _ _ _ ?_) | (with_reducible refine WL.same _ _ _ ?_) | (refine WL.eq _ _ _ _ rfl ?_))
    · rintro i ⟨hi, hg⟩
      have hbi : i < 4611686018427387904 := by omega
      simp -implicitDefEqProofs only [go_sem, true_and]
      (repeat' (first | ((with_reducible first | refine gon ?_ ?_ | refine gos ?_ ?_ | refine cdn ?_ ?_ | refine cds ?_ ?_ | refine gpn ?_ ?_ | refine gps ?_ ?_) <;> intro h <;> (try simp only [dt, df, gi, gt] at h) <;> try simp -implicitDefEqProofs only [go_sem, *]) | ((with_reducible refine And.intro ?_ ?_); (· first | omega | (simp only [List.length_take]; omega)); try simp -implicitDefEqProofs only [go_sem, *]) | first | ((with_reducible refine cp_draw (id := 6) 10 mixed ?_ ?_ ?_); (· decide +kernel); (· first | (simp only [List.all_cons, List.all_nil, List.length_cons, List.length_nil, Nat.reduceAdd, Nat.reduceLT, decide_true, Bool.and_true, Bool.and_self]; done) | rfl); try simp -implicitDefEqProofs only [go_sem, *]) | ((with_reducible refine pre_enter _ (det_pu (ltPage_fn (at' a (i : Int)) (at' b (i : Int)) (hv _ (at_mem a i (by omega)))) ?_ ?_) ?_ ?_); (· rfl); (· rfl); (· rfl); try simp -implicitDefEqProofs only [go_sem, *])))
      all_goals first
        | ((with_reducible refine fin_pu ?_ ?_); (· (rw [← hg, allFrom_lt (by omega : i < a.length)]; clear hg; simp_all; done)); (· rfl))
        | ((with_reducible refine fin_pu ?_ ?_); (· (rw [← hg, allFrom_ge (by omega : ¬ i < a.length)]; done)); (· rfl))
        | ((with_reducible refine ⟨i + 1, ⟨by omega, ?_⟩, by omega, ?_⟩); (· (rw [← hg, allFrom_lt (by omega : i < a.length)]; clear hg; simp_all)); (· refine wk_tm ?_; repeat (first | exact WL.nil | (with_reducible refine WL.any _ _ _ ?_) | (with_reducible refine WL.same _ _ _ ?_) | (refine WL.eq _ _ _ _ rfl ?_))))
theorem ltRecs_fn (a b : List Rc) (hb : a.length < 4611686018427387904) : Fn1 Tryz.prog 22 [recs a, recs b] (Bo (sameRs a b)) := by
  refine fn1_of Tryz.func22 rfl rfl ?_
  simp -implicitDefEqProofs only [go_sem, Tryz.f22]
  (repeat' (first | ((with_reducible first | refine gon ?_ ?_ | refine gos ?_ ?_ | refine cdn ?_ ?_ | refine cds ?_ ?_ | refine gpn ?_ ?_ | refine gps ?_ ?_) <;> intro h <;> (try simp only [dt, df, gi, gt] at h) <;> try simp -implicitDefEqProofs only [go_sem, *]) | ((with_reducible refine And.intro ?_ ?_); (· first | omega | (simp only [List.length_take]; omega)); try simp -implicitDefEqProofs only [go_sem, *]) | fail))
  all_goals try ((with_reducible refine fin_pu ?_ ?_); (· (simp_all [sameRs]) <;> (first | omega | (rw [Bool.eq_iff_iff]; simp; done) | (rw [Bool.eq_iff_iff]; simp; omega) | (split <;> (first | rfl | omega | (simp_all; done))))); (· rfl))
  · have hl : a.length = b.length := by have := h; simp at this; omega
    refine cp_loop (fun i : Nat => ⟨(recs a :: recs b :: .any :: .any :: Bo false :: I (i : Int) :: .any :: .any :: .any :: .any :: .any :: .any :: .any :: .any :: .any :: .any :: .any :: .any :: .any :: .any :: .any :: .any :: .any :: .any :: .any :: .any :: []), [], []⟩) (fun i => i ≤ a.length ∧ allFrom (fun k => sameR (at' a (k : Int)) (at' b (k : Int))) i a.length = sameRs a b) (fun i => a.length - i) 0 ?_ ?_ ?_
    · exact ⟨by omega, by simp [sameRs, hl]⟩
    · refine wk_tm ?_; repeat (first | exact WL.nil | (with_reducible refine WL.any _ _ _ ?_) | (with_reducible refine WL.same _ _ _ ?_) | (refine WL.eq _ _ _ _ rfl ?_))
    · rintro i ⟨hi, hg⟩
      have hbi : i < 4611686018427387904 := by omega
      simp -implicitDefEqProofs only [go_sem, true_and]
      (repeat' (first | ((with_reducible first | refine gon ?_ ?_ | refine gos ?_ ?_ | refine cdn ?_ ?_ | refine cds ?_ ?_ | refine gpn ?_ ?_ | refine gps ?_ ?_) <;> intro h <;> (try simp only [dt, df, gi, gt] at h) <;> try simp -implicitDefEqProofs only [go_sem, *]) | ((with_reducible refine And.intro ?_ ?_); (· first | omega | (simp only [List.length_take]; omega)); try simp -implicitDefEqProofs only [go_sem, *]) | ((with_reducible refine cp_draw (id := 6) 9 mixed ?_ ?_ ?_); (· decide +kernel); (· first | (simp only [List.all_cons, List.all_nil, List.length_cons, List.length_nil, Nat.reduceAdd, Nat.reduceLT, decide_true, Bool.and_true, Bool.and_self]; done) | rfl); try simp -implicitDefEqProofs only [go_sem, *])))
      all_goals first
        | ((with_reducible refine fin_pu ?_ ?_); (· (rw [← hg, allFrom_lt (by omega : i < a.length)]; clear hg; simp_all [sameR]; done)); (· rfl))
        | ((with_reducible refine fin_pu ?_ ?_); (· (rw [← hg, allFrom_ge (by omega : ¬ i < a.length)]; done)); (· rfl))
        | ((with_reducible refine ⟨i + 1, ⟨by omega, ?_⟩, by omega, ?_⟩); (· (rw [← hg, allFrom_lt (by omega : i < a.length)]; clear hg; simp_all [sameR])); (· refine wk_tm ?_; repeat (first | exact WL.nil | (with_reducible refine WL.any _ _ _ ?_) | (with_reducible refine WL.same _ _ _ ?_) | (refine WL.eq _ _ _ _ rfl ?_))))
theorem ltEngine_fn (a b : Eng) (ha : a.small) : Fn1 Tryz.prog 18 [eA a, eA b] (Bo (sameE a b)) := by
  refine fn1_of Tryz.func18 rfl rfl ?_
  simp -implicitDefEqProofs only [go_sem, Tryz.f18]
  (repeat' (first | ((with_reducible first | refine gon ?_ ?_ | refine gos ?_ ?_ | refine cdn ?_ ?_ | refine cds ?_ ?_ | refine gpn ?_ ?_ | refine gps ?_ ?_) <;> intro h <;> (try simp only [dt, df, gi, gt] at h) <;> try simp -implicitDefEqProofs only [go_sem, *]) | ((with_reducible refine And.intro ?_ ?_); (· first | omega | (simp only [List.length_take]; omega)); try simp -implicitDefEqProofs only [go_sem, *]) | first | ((with_reducible refine enter_pu (ltPages_fn a.disk b.disk ha.disk ha.dv) ?_ ?_ ?_); (· rfl); (· rfl); try simp -implicitDefEqProofs only [go_sem, *]) | ((with_reducible refine enter_pu (ltPages_fn a.mem b.mem ha.mem ha.mv) ?_ ?_ ?_); (· rfl); (· rfl); try simp -implicitDefEqProofs only [go_sem, *]) | ((with_reducible refine enter_pu (ltRecs_fn a.log b.log ha.log) ?_ ?_ ?_); (· rfl); (· rfl); try simp -implicitDefEqProofs only [go_sem, *])))
  all_goals try ((with_reducible refine fin_pu ?_ ?_); (· (simp_all [sameE]) <;> (first | omega | (rw [Bool.eq_iff_iff]; simp; done) | (rw [Bool.eq_iff_iff]; simp; omega) | (split <;> (first | rfl | omega | (simp_all; done))))); (· rfl))
end Go.Proofs.YtagjgjhkdihodaaGreat.Am
end
section
set_option linter.unusedVariables false
set_option linter.unusedSimpArgs false
set_option maxRecDepth 100000
set_option maxHeartbeats 8000000
namespace Go.Proofs.YtagjgjhkdihodaaGreat.Am
open Go Go.RowKit Go.Proofs
attribute [local congr] opsP_congr codeP_congr AWP_congr afterR_congr preP_congr afterPre_congr gPre_congr gOps_congr condP_congr stepE_congr
attribute [local go_sem] ty_int ty_bool ty_str ty_u8 ty_ints ty_bytes ty_page ty_pages ty_lpage ty_lpages ty_rec ty_recs ty_lrec ty_lrecs ty_eng ty_leng
attribute [local go_sem] true_and and_true beq_true' beq_false' toNat_cast Int.natCast_nonneg Bool.not_not Bool.not_true Bool.not_false decide_true decide_false Bool.or_false Bool.false_or Bool.or_true Bool.true_or Bool.and_false Bool.false_and Nat.zero_add Int.toNat_of_nonneg wrap_succ wrap_m1 wrap_nat succ_m1 cast0 succ_pos' succ_ne' succ_bne' ge_iff_le gt_iff_lt if_true if_false
attribute [local go_sem] slt_r slt_I slt_p
def openL (l : List Rc) : List Int := if logOk l = true then openTo l 3 else []
end Go.Proofs.YtagjgjhkdihodaaGreat.Am
end
section
set_option linter.unusedVariables false
set_option linter.unusedSimpArgs false
set_option maxRecDepth 100000
set_option maxHeartbeats 8000000
namespace Go.Proofs.YtagjgjhkdihodaaGreat.Am
open Go Go.RowKit Go.Proofs
attribute [local congr] opsP_congr codeP_congr AWP_congr afterR_congr preP_congr afterPre_congr gPre_congr gOps_congr condP_congr stepE_congr
attribute [local go_sem] ty_int ty_bool ty_str ty_u8 ty_ints ty_bytes ty_page ty_pages ty_lpage ty_lpages ty_rec ty_recs ty_lrec ty_lrecs ty_eng ty_leng
attribute [local go_sem] true_and and_true beq_true' beq_false' toNat_cast Int.natCast_nonneg Bool.not_not Bool.not_true Bool.not_false decide_true decide_false Bool.or_false Bool.false_or Bool.or_true Bool.true_or Bool.and_false Bool.false_and Nat.zero_add Int.toNat_of_nonneg wrap_succ wrap_m1 wrap_nat succ_m1 cast0 succ_pos' succ_ne' succ_bne' ge_iff_le gt_iff_lt if_true if_false
attribute [local go_sem] slt_r slt_I slt_p ty_rd ty_ev ty_evs
theorem sameInts_iff {a b : List Int} : sameInts a b = true ↔ a = b := by
  unfold sameInts
  rw [Bool.and_eq_true, decide_eq_true_eq, allFrom_iff]
  constructor
  · rintro ⟨h1, h2⟩
    refine List.ext_getElem h1 fun i hi hj => ?_
    have := h2 i (Nat.zero_le _) hi
    simpa [at', List.getD, hi, hj] using this
  · rintro rfl
    exact ⟨rfl, fun k _ _ => by simp⟩
theorem sameP_iff {p q : Pg} : sameP p q = true ↔ p = q := by
  unfold sameP
  rw [Bool.and_eq_true, Bool.and_eq_true, sameInts_iff, beq_iff_eq, beq_iff_eq]
  obtain ⟨a, b, c⟩ := p
  obtain ⟨a', b', c'⟩ := q
  simp [and_assoc]
theorem samePs_iff {a b : List Pg} : samePs a b = true ↔ a = b := by
  unfold samePs
  rw [Bool.and_eq_true, decide_eq_true_eq, allFrom_iff]
  constructor
  · rintro ⟨h1, h2⟩
    refine List.ext_getElem h1 fun i hi hj => ?_
    have := sameP_iff.1 (h2 i (Nat.zero_le _) hi)
    simpa [at', List.getD, hi, hj] using this
  · rintro rfl
    exact ⟨rfl, fun k _ _ => sameP_refl _⟩
end Go.Proofs.YtagjgjhkdihodaaGreat.Am
end
section
set_option linter.unusedVariables false
set_option linter.unusedSimpArgs false
set_option maxRecDepth 100000
set_option maxHeartbeats 8000000
namespace Go.Proofs.YtagjgjhkdihodaaGreat.Am
open Go Go.RowKit Go.Proofs
attribute [local go_sem_proc] Nat.reduceAdd Nat.reduceSub Nat.reduceMul Nat.reduceLT Nat.reduceLeDiff Nat.reduceEqDiff Int.reduceBEq Int.reduceBNe Int.reduceNeg Int.reduceSub Int.reduceLE Int.reduceLT
attribute [local go_sem_proc ↓] reduceIte
attribute [local congr] opsP_congr codeP_congr AWP_congr afterR_congr preP_congr afterPre_congr gPre_congr gOps_congr condP_congr stepE_congr
attribute [local go_sem] ty_int ty_bool ty_str ty_u8 ty_ints ty_bytes ty_page ty_pages ty_lpage ty_lpages ty_rec ty_recs ty_lrec ty_lrecs ty_eng ty_leng
attribute [local go_sem] true_and and_true beq_true' beq_false' toNat_cast Int.natCast_nonneg Bool.not_not Bool.not_true Bool.not_false decide_true decide_false Bool.or_false Bool.false_or Bool.or_true Bool.true_or Bool.and_false Bool.false_and Nat.zero_add Int.toNat_of_nonneg wrap_succ wrap_m1 wrap_nat succ_m1 cast0 succ_pos' succ_ne' succ_bne' ge_iff_le gt_iff_lt if_true if_false
attribute [local go_sem] slt_r slt_I slt_p ty_rd ty_ev ty_evs
theorem LogOpenS_fn (l : List Rc) (hl : l.length < 4611686018427387904) : Fn1 Tryz.prog 120 [recs l] (ints (openL l)) := by
  have c1 := LogOk_fn l hl
  refine fn1_of Tryz.func120 rfl rfl ?_
  unfold openL
  rcases hok : logOk l with _ | _
  · rw [hok] at c1
    simp -implicitDefEqProofs only [go_sem, Tryz.f120]
    (repeat' (first | ((with_reducible first | refine gon ?_ ?_ | refine gos ?_ ?_ | refine cdn ?_ ?_ | refine cds ?_ ?_ | refine gpn ?_ ?_ | refine gps ?_ ?_) <;> intro h <;> (try simp only [dt, df, gi, gt] at h) <;> try simp -implicitDefEqProofs only [go_sem, *]) | ((with_reducible refine And.intro ?_ ?_); (· first | omega | (simp only [List.length_take]; omega)); try simp -implicitDefEqProofs only [go_sem, *]) | ((with_reducible refine enter_pu (c1) ?_ ?_ ?_); (· rfl); (· rfl); try simp -implicitDefEqProofs only [go_sem, *])))
    exact fin_1 (argT0 (arg0_I (l := []) rfl rfl))
  · rw [hok] at c1
    rw [if_pos rfl]
    simp -implicitDefEqProofs only [go_sem, Tryz.f120]
    (repeat' (first | ((with_reducible first | refine gon ?_ ?_ | refine gos ?_ ?_ | refine cdn ?_ ?_ | refine cds ?_ ?_ | refine gpn ?_ ?_ | refine gps ?_ ?_) <;> intro h <;> (try simp only [dt, df, gi, gt] at h) <;> try simp -implicitDefEqProofs only [go_sem, *]) | ((with_reducible refine And.intro ?_ ?_); (· first | omega | (simp only [List.length_take]; omega)); try simp -implicitDefEqProofs only [go_sem, *]) | ((with_reducible refine enter_pu (c1) ?_ ?_ ?_); (· rfl); (· rfl); try simp -implicitDefEqProofs only [go_sem, *])))
    clear c1
    refine cp_loop (fun t : Nat => ⟨(recs l :: .any :: nilS :: .own 0 1 0 (openTo l t).length :: I (((t + 1 : Nat) : Int)) :: .any :: .any :: .any :: .any :: .any :: .any :: .any :: .any :: .any :: .any :: .any :: .any :: .any :: .any :: .any :: .any :: .any :: .any :: []), [some ⟨1, (openTo l t).map I⟩], [0]⟩) (fun t => t ≤ 3) (fun t => 3 - t) 0 ?_ ?_ ?_
    · simp
    · refine WkN.trans (WkN.trans (wk_tm ?_) (wk_trunc (S := [some ⟨1, _⟩]) (Nat.le_refl _) rfl (by first | rfl | (simp only [sltB, List.all_cons, List.all_nil, slt_p, slt_I, slt_r, Bool.and_true]; done) | (simp only [sltB, List.all_cons, List.all_nil, slt_p, slt_I, slt_r, Bool.and_true]; rfl)))) (wk_mv (by simp)); repeat (first | exact WL.nil | (with_reducible refine WL.any _ _ _ ?_) | (with_reducible refine WL.same _ _ _ ?_) | (refine WL.eq _ _ _ _ rfl ?_))
    · rintro t hi
      have hb : t + 1 < 4611686018427387904 := by omega
      have hlen := openTo_len l t
      have c3 := l3Last_fn l ((t + 1 : Nat) : Int) hl
      simp -implicitDefEqProofs only [go_sem, true_and]
      (repeat' (first | ((with_reducible first | refine gon ?_ ?_ | refine gos ?_ ?_ | refine cdn ?_ ?_ | refine cds ?_ ?_ | refine gpn ?_ ?_ | refine gps ?_ ?_) <;> intro h <;> (try simp only [dt, df, gi, gt] at h) <;> try simp -implicitDefEqProofs only [go_sem, *]) | ((with_reducible refine And.intro ?_ ?_); (· first | omega | (simp only [List.length_take]; omega)); try simp -implicitDefEqProofs only [go_sem, *]) | ((with_reducible refine enter_pu (c3) ?_ ?_ ?_); (· rfl); (· rfl); try simp -implicitDefEqProofs only [go_sem, *])))
      · have e : openTo l (t + 1) = openTo l t ++ [((t + 1 : Nat) : Int)] := if_neg (by omega)
        refine ⟨t + 1, by omega, by omega, ?_⟩
        simp only [e, List.length_append, List.length_cons, List.length_nil]
        refine WkN.trans (WkN.trans (wk_tm ?_) (wk_trunc (S := [some ⟨1, _⟩]) (Nat.le_refl _) rfl (by first | rfl | (simp only [sltB, List.all_cons, List.all_nil, slt_p, slt_I, slt_r, Bool.and_true]; done) | (simp only [sltB, List.all_cons, List.all_nil, slt_p, slt_I, slt_r, Bool.and_true]; rfl)))) (wk_mv (by simp)); repeat (first | exact WL.nil | (with_reducible refine WL.any _ _ _ ?_) | (with_reducible refine WL.same _ _ _ ?_) | (refine WL.eq _ _ _ _ rfl ?_))
      · have e : openTo l (t + 1) = openTo l t := if_pos (by omega)
        refine ⟨t + 1, by omega, by omega, ?_⟩
        simp only [e]
        refine wk_tm ?_; repeat (first | exact WL.nil | (with_reducible refine WL.any _ _ _ ?_) | (with_reducible refine WL.same _ _ _ ?_) | (refine WL.eq _ _ _ _ rfl ?_))
      · have e : t = 3 := by omega
        subst e
        exact fin_1 (argT0 (arg0_I rfl rfl))
theorem fin_up {l : List Int} {T : Store} {p p' : Nat} {e : Eng} (hd : e.dr) (q1 : p ≤ p') (q2 : p' ≤ p + 12000) :
    Fin 1 (eA e) (oR l p' :: T) [] (fun r S' mv => ∃ y : Eng × Nat, (y.1.dr ∧ p ≤ y.2 ∧ y.2 ≤ p + 12000) ∧ r = eA y.1 ∧ S' = [oR l y.2] ∧ mv = []) :=
  fin_drop [0] [] (by simp) rfl (by decide) (keep1 (ob := ⟨2, [.agg [bts l, I (p' : Int)]]⟩) rfl (a2_1 rfl)) (hdR (o := ⟨2, [.agg [bts l, I (p' : Int)]]⟩) rfl (by simp) rfl rfl)
    (rd_same rfl) ⟨(e, p'), ⟨hd, q1, q2⟩, rfl, rfl, rfl⟩
theorem l72Up_c (l : List Int) (p : Nat) (hC : Cod l) (hp : p < 500000) : AFnX Tryz.prog 56 [.ref 0 2 0 0] [oR l p] (fun q : Eng × Nat => q.1.dr ∧ p ≤ q.2 ∧ q.2 ≤ p + 12000) (fun q => eA q.1) (fun q => [oR l q.2]) [] := by
  refine afnx_of Tryz.func56 rfl rfl ?_
  simp -implicitDefEqProofs only [go_sem, Tryz.f56]
  (repeat' (first | ((with_reducible first | refine gon ?_ ?_ | refine gos ?_ ?_ | refine cdn ?_ ?_ | refine cds ?_ ?_ | refine gpn ?_ ?_ | refine gps ?_ ?_) <;> intro h <;> (try simp only [dt, df, gi, gt] at h) <;> try simp -implicitDefEqProofs only [go_sem, *]) | ((with_reducible refine And.intro ?_ ?_); (· first | omega | (simp only [List.length_take]; omega)); try simp -implicitDefEqProofs only [go_sem, *]) | ((with_reducible refine at_reader (l72Engine_c l p hC (by omega)) (fun _ _ => rfl) ?_); rintro ⟨e, p2⟩ ⟨h0, h1, h2⟩; simp only at *; try simp -implicitDefEqProofs only [go_sem, *])))
  refine cp_loop (fun q : Nat × Nat × Eng => ⟨(.ref 0 2 0 0 :: .any :: .ref 1 5 0 0 :: .ref 2 5 0 0 :: I (q.1 : Int) :: .any :: .any :: .any :: .any :: .any :: .any :: .any :: .any :: .any :: .any :: .any :: .any :: .any :: .any :: .any :: .any :: .any :: .any :: .any :: .any :: .any :: .any :: .any :: .any :: .any :: []), [oR l q.2.1, some ⟨5, [.agg [.prim (.slice none 0 0), .prim (.slice none 0 0), .prim (.slice none 0 0), I 0, Bo false]]⟩, some ⟨5, [eA q.2.2]⟩], []⟩) (fun q => q.1 ≤ 5 ∧ q.2.2.dr ∧ p ≤ q.2.1 ∧ q.2.1 ≤ p + 1800 + 1801 * q.1) (fun q => 5 - q.1) (0, p2, e) ?_ ?_ ?_
  · exact ⟨by simp only; omega, h0, by simp only; omega, by simp only; omega⟩
  · refine wk_tm ?_; repeat (first | exact WL.nil | (with_reducible refine WL.any _ _ _ ?_) | (with_reducible refine WL.same _ _ _ ?_) | (refine WL.eq _ _ _ _ rfl ?_))
  · rintro ⟨i, p', e'⟩ ⟨hi, hdr, hp1, hp2⟩
    simp only at hi hdr hp1 hp2
    clear h0 h1 h2
    have hib : i < 4611686018427387904 := by omega
    obtain ⟨ea, eb, ec, es, ed⟩ := e'
    have c1 := LogOpenS_fn ec (dr_small hdr).log
    simp only
    by_cases hil : i < 5
    · have hl1 : (i : Int) < 5 := by omega
      rcases ed with _ | _
      all_goals
       simp -implicitDefEqProofs only [go_sem, hl1, hib]
       (repeat' (first | ((with_reducible first | refine gon ?_ ?_ | refine gos ?_ ?_ | refine cdn ?_ ?_ | refine cds ?_ ?_ | refine gpn ?_ ?_ | refine gps ?_ ?_) <;> intro h <;> (try simp only [dt, df, gi, gt] at h) <;> try simp -implicitDefEqProofs only [go_sem, *]) | ((with_reducible refine And.intro ?_ ?_); (· first | omega | (simp only [List.length_take]; omega)); try simp -implicitDefEqProofs only [go_sem, *]) | first | ((with_reducible refine pick_at hC ?_ ?_ ?_); (· omega); (· first | decide | omega); rintro k hk; try simp -implicitDefEqProofs only [go_sem, *]) | ((with_reducible refine enter_pu (c1) ?_ ?_ ?_); (· rfl); (· rfl); try simp -implicitDefEqProofs only [go_sem, *]) | ((with_reducible refine at_reader (l72Engine_c l (p' + 1) hC (by omega)) (fun _ _ => rfl) ?_); rintro ⟨e2, p3⟩ ⟨h0, h1, h2⟩; simp only at *; try simp -implicitDefEqProofs only [go_sem, *])))
       all_goals first
        | exact fin_up hdr (by omega) (by omega)
        | (refine ⟨(i + 1, p3, e2), ⟨by simp only; omega, h0, by simp only; omega, by simp only; omega⟩, by simp only; omega, ?_⟩; refine wk_tm ?_; repeat (first | exact WL.nil | (with_reducible refine WL.any _ _ _ ?_) | (with_reducible refine WL.same _ _ _ ?_) | (refine WL.eq _ _ _ _ rfl ?_)))
    · have hl1 : ¬ (i : Int) < 5 := by omega
      simp -implicitDefEqProofs only [go_sem, hl1]
      (repeat' (first | ((with_reducible first | refine gon ?_ ?_ | refine gos ?_ ?_ | refine cdn ?_ ?_ | refine cds ?_ ?_ | refine gpn ?_ ?_ | refine gps ?_ ?_) <;> intro h <;> (try simp only [dt, df, gi, gt] at h) <;> try simp -implicitDefEqProofs only [go_sem, *]) | ((with_reducible refine And.intro ?_ ?_); (· first | omega | (simp only [List.length_take]; omega)); try simp -implicitDefEqProofs only [go_sem, *]) | fail))
      exact fin_up hdr (by omega) (by omega)
theorem DrawEngineDirty_c (l : List Int) (hl : l.length < 4611686018427387904) (hb : Byt l) : FnX 24 [bts l] (fun e : Eng => e.dr) eA := by
  refine afnx_of Tryz.func24 rfl rfl ?_
  simp -implicitDefEqProofs only [go_sem, Tryz.f24]
  (repeat' (first | ((with_reducible first | refine gon ?_ ?_ | refine gos ?_ ?_ | refine cdn ?_ ?_ | refine cds ?_ ?_ | refine gpn ?_ ?_ | refine gps ?_ ?_) <;> intro h <;> (try simp only [dt, df, gi, gt] at h) <;> try simp -implicitDefEqProofs only [go_sem, *]) | ((with_reducible refine And.intro ?_ ?_); (· first | omega | (simp only [List.length_take]; omega)); try simp -implicitDefEqProofs only [go_sem, *]) | ((with_reducible refine enter_at ([] : List Nat) (M2 := []) (l6Open_c l hl hb) (by decide) ?_ ?_ rfl ?_); (· repeat (first | exact Keeps.nil | (refine Keeps.cons _ _ _ _ _ rfl rfl ?_ ?_; (· first | exact a2_p _ _ | exact a2_1 rfl | exact a2_I _ _)))); (· repeat (first | exact All2.nil | (refine All2.cons _ _ _ _ ?_ ?_; (· first | exact rnT_eX rfl rfl | exact rnT_prim | exact rnT_sl | exact rnT_ref rfl | exact rnT_agg rfl | exact rnT_own rfl | exact rnT_eX5 rfl rfl)))); rintro l' hC; try simp -implicitDefEqProofs only [go_sem, *])))
  (repeat' (first | ((with_reducible first | refine gon ?_ ?_ | refine gos ?_ ?_ | refine cdn ?_ ?_ | refine cds ?_ ?_ | refine gpn ?_ ?_ | refine gps ?_ ?_) <;> intro h <;> (try simp only [dt, df, gi, gt] at h) <;> try simp -implicitDefEqProofs only [go_sem, *]) | ((with_reducible refine And.intro ?_ ?_); (· first | omega | (simp only [List.length_take]; omega)); try simp -implicitDefEqProofs only [go_sem, *]) | ((with_reducible refine at_readerI (i := 1) ?_ (l72Up_c l' 0 hC (by omega)) (fun _ _ => rfl) ?_); (· rfl); rintro ⟨e, p2⟩ ⟨h0, h1, h2⟩; simp only at *; try simp -implicitDefEqProofs only [go_sem, *])))
  exact fin_drawn (rd_same rfl) ⟨e, h0, rfl, rfl, rfl⟩
theorem rd_ei {S : Store} {e : Eng} {b : Int} : RdT [] S 0 (.tup [eA e, I b]) (.tup [eA e, I b]) := .tup _ _ (.cons _ _ _ _ (.agg _ _ (.cons _ _ _ _ (.rn _ _ (.same _ rfl)) (.cons _ _ _ _ (.rn _ _ (.same _ rfl)) (.cons _ _ _ _ (.rn _ _ (.same _ rfl)) (.cons _ _ _ _ (.rn _ _ (.same _ rfl)) (.cons _ _ _ _ (.rn _ _ (.same _ rfl)) .nil)))))) (.cons _ _ _ _ (.of _ _ (.rn _ _ (.same _ rfl))) .nil))
theorem DrawEngineWrite_c (l : List Int) (hl : l.length < 4611686018427387904) (hb : Byt l) : FnX 15 [bts l] (fun q : Eng × Int => q.1.dr) (fun q => .tup [eA q.1, I q.2]) := by
  refine afnx_of Tryz.func15 rfl rfl ?_
  simp -implicitDefEqProofs only [go_sem, Tryz.f15]
  (repeat' (first | ((with_reducible first | refine gon ?_ ?_ | refine gos ?_ ?_ | refine cdn ?_ ?_ | refine cds ?_ ?_ | refine gpn ?_ ?_ | refine gps ?_ ?_) <;> intro h <;> (try simp only [dt, df, gi, gt] at h) <;> try simp -implicitDefEqProofs only [go_sem, *]) | ((with_reducible refine And.intro ?_ ?_); (· first | omega | (simp only [List.length_take]; omega)); try simp -implicitDefEqProofs only [go_sem, *]) | ((with_reducible refine enter_at ([] : List Nat) (M2 := []) (l6Open_c l hl hb) (by decide) ?_ ?_ rfl ?_); (· repeat (first | exact Keeps.nil | (refine Keeps.cons _ _ _ _ _ rfl rfl ?_ ?_; (· first | exact a2_p _ _ | exact a2_1 rfl | exact a2_I _ _)))); (· repeat (first | exact All2.nil | (refine All2.cons _ _ _ _ ?_ ?_; (· first | exact rnT_eX rfl rfl | exact rnT_prim | exact rnT_sl | exact rnT_ref rfl | exact rnT_agg rfl | exact rnT_own rfl | exact rnT_eX5 rfl rfl)))); rintro l' hC; try simp -implicitDefEqProofs only [go_sem, *])))
  (repeat' (first | ((with_reducible first | refine gon ?_ ?_ | refine gos ?_ ?_ | refine cdn ?_ ?_ | refine cds ?_ ?_ | refine gpn ?_ ?_ | refine gps ?_ ?_) <;> intro h <;> (try simp only [dt, df, gi, gt] at h) <;> try simp -implicitDefEqProofs only [go_sem, *]) | ((with_reducible refine And.intro ?_ ?_); (· first | omega | (simp only [List.length_take]; omega)); try simp -implicitDefEqProofs only [go_sem, *]) | first | ((with_reducible refine at_readerI (i := 1) ?_ (l72Up_c l' 0 hC (by omega)) (fun _ _ => rfl) ?_); (· rfl); rintro ⟨e, p2⟩ ⟨h0, h1, h2⟩; simp only at *; try simp -implicitDefEqProofs only [go_sem, *]) | ((refine pick_atI (i := 1) hC rfl ?_ ?_ ?_); (· omega); (· first | decide | omega); rintro k hk; try simp -implicitDefEqProofs only [go_sem, *])))
  exact fin_drawn rd_ei ⟨(e, _), h0, rfl, rfl, rfl⟩
end Go.Proofs.YtagjgjhkdihodaaGreat.Am
end
section
set_option linter.unusedVariables false
set_option linter.unusedSimpArgs false
set_option maxRecDepth 100000
set_option maxHeartbeats 8000000
namespace Go.Proofs.YtagjgjhkdihodaaGreat.Am
open Go Go.RowKit Go.Proofs
attribute [local congr] opsP_congr codeP_congr AWP_congr afterR_congr preP_congr afterPre_congr gPre_congr gOps_congr condP_congr stepE_congr
attribute [local go_sem] ty_int ty_bool ty_str ty_u8 ty_ints ty_bytes ty_page ty_pages ty_lpage ty_lpages ty_rec ty_recs ty_lrec ty_lrecs ty_eng ty_leng
attribute [local go_sem] true_and and_true beq_true' beq_false' toNat_cast Int.natCast_nonneg Bool.not_not Bool.not_true Bool.not_false decide_true decide_false Bool.or_false Bool.false_or Bool.or_true Bool.true_or Bool.and_false Bool.false_and Nat.zero_add Int.toNat_of_nonneg wrap_succ wrap_m1 wrap_nat succ_m1 cast0 succ_pos' succ_ne' succ_bne' ge_iff_le gt_iff_lt if_true if_false
attribute [local go_sem] slt_r slt_I slt_p ty_rd ty_ev ty_evs
end Go.Proofs.YtagjgjhkdihodaaGreat.Am
end
section
set_option linter.unusedVariables false
set_option linter.unusedSimpArgs false
set_option maxRecDepth 100000
set_option maxHeartbeats 8000000
namespace Go.Proofs.YtagjgjhkdihodaaGreat.Am
open Go Go.RowKit Go.Proofs
attribute [local go_sem_proc] Nat.reduceAdd Nat.reduceSub Nat.reduceMul Nat.reduceLT Nat.reduceLeDiff Nat.reduceEqDiff Int.reduceBEq Int.reduceBNe Int.reduceNeg Int.reduceSub Int.reduceLE Int.reduceLT
attribute [local go_sem_proc ↓] reduceIte
attribute [local congr] opsP_congr codeP_congr AWP_congr afterR_congr preP_congr afterPre_congr gPre_congr gOps_congr condP_congr stepE_congr
attribute [local go_sem] ty_int ty_bool ty_str ty_u8 ty_ints ty_bytes ty_page ty_pages ty_lpage ty_lpages ty_rec ty_recs ty_lrec ty_lrecs ty_eng ty_leng
attribute [local go_sem] true_and and_true beq_true' beq_false' toNat_cast Int.natCast_nonneg Bool.not_not Bool.not_true Bool.not_false decide_true decide_false Bool.or_false Bool.false_or Bool.or_true Bool.true_or Bool.and_false Bool.false_and Nat.zero_add Int.toNat_of_nonneg wrap_succ wrap_m1 wrap_nat succ_m1 cast0 succ_pos' succ_ne' succ_bne' ge_iff_le gt_iff_lt if_true if_false
attribute [local go_sem] slt_r slt_I slt_p ty_rd ty_ev ty_evs
def amongB (l : List Int) (n : Int) : Bool := anyFrom (fun k => at' l k == n) 0 l.length
theorem ltAmong_fn (l : List Int) (n : Int) (hl : l.length < 4611686018427387904) : Fn1 Tryz.prog 29 [ints l, I n] (Bo (amongB l n)) := by
  refine fn1_of Tryz.func29 rfl rfl ?_
  simp -implicitDefEqProofs only [go_sem, Tryz.f29]
  refine cp_loop (fun i : Nat => ⟨(ints l :: I n :: .any :: .any :: Bo false :: I (i : Int) :: .any :: .any :: .any :: .any :: .any :: .any :: .any :: .any :: .any :: .any :: .any :: .any :: []), [], []⟩) (fun i => i ≤ l.length ∧ anyFrom (fun k => at' l k == n) i l.length = amongB l n) (fun i => l.length - i) 0 ?_ ?_ ?_
  · exact ⟨Nat.zero_le _, rfl⟩
  · refine wk_tm ?_; repeat (first | exact WL.nil | (with_reducible refine WL.any _ _ _ ?_) | (with_reducible refine WL.same _ _ _ ?_) | (refine WL.eq _ _ _ _ rfl ?_))
  · rintro i ⟨hi, hg⟩
    have hb : i < 4611686018427387904 := by omega
    by_cases hil : i < l.length
    · have hil' : (i : Int) < (l.length : Int) := by omega
      rw [anyFrom_lt hil] at hg
      rcases h : at' l (i : Int) == n with _ | _
      · simp -implicitDefEqProofs only [go_sem, hil']
        (repeat' (first | ((with_reducible first | refine gon ?_ ?_ | refine gos ?_ ?_ | refine cdn ?_ ?_ | refine cds ?_ ?_ | refine gpn ?_ ?_ | refine gps ?_ ?_) <;> intro h <;> (try simp only [dt, df, gi, gt] at h) <;> try simp -implicitDefEqProofs only [go_sem, *]) | ((with_reducible refine And.intro ?_ ?_); (· first | omega | (simp only [List.length_take]; omega)); try simp -implicitDefEqProofs only [go_sem, *]) | fail))
        refine ⟨i + 1, ⟨by omega, ?_⟩, by omega, ?_⟩
        · rw [← hg, h, Bool.false_or]
        · refine wk_tm ?_; repeat (first | exact WL.nil | (with_reducible refine WL.any _ _ _ ?_) | (with_reducible refine WL.same _ _ _ ?_) | (refine WL.eq _ _ _ _ rfl ?_))
      · simp -implicitDefEqProofs only [go_sem, hil']
        (repeat' (first | ((with_reducible first | refine gon ?_ ?_ | refine gos ?_ ?_ | refine cdn ?_ ?_ | refine cds ?_ ?_ | refine gpn ?_ ?_ | refine gps ?_ ?_) <;> intro h <;> (try simp only [dt, df, gi, gt] at h) <;> try simp -implicitDefEqProofs only [go_sem, *]) | ((with_reducible refine And.intro ?_ ?_); (· first | omega | (simp only [List.length_take]; omega)); try simp -implicitDefEqProofs only [go_sem, *]) | fail))
        refine fin_pu ?_ rfl
        rw [← hg, h]
        rfl
    · have hil' : ¬ (i : Int) < (l.length : Int) := by omega
      rw [anyFrom_ge hil] at hg
      simp -implicitDefEqProofs only [go_sem, hil']
      (repeat' (first | ((with_reducible first | refine gon ?_ ?_ | refine gos ?_ ?_ | refine cdn ?_ ?_ | refine cds ?_ ?_ | refine gpn ?_ ?_ | refine gps ?_ ?_) <;> intro h <;> (try simp only [dt, df, gi, gt] at h) <;> try simp -implicitDefEqProofs only [go_sem, *]) | ((with_reducible refine And.intro ?_ ?_); (· first | omega | (simp only [List.length_take]; omega)); try simp -implicitDefEqProofs only [go_sem, *]) | fail))
      refine fin_pu ?_ rfl
      rw [← hg]
theorem among_iff {l : List Int} {n : Int} : amongB l n = true ↔ n ∈ l := by
  unfold amongB
  rw [anyFrom_iff]
  constructor
  · rintro ⟨k, _, h1, h2⟩
    have : at' l (k : Int) = n := by simpa using h2
    rw [← this]
    exact at_mem l k h1
  · intro h
    obtain ⟨k, hk, e⟩ := List.mem_iff_getElem.1 h
    exact ⟨k, Nat.zero_le _, hk, by simp [at', List.getD, hk, e]⟩
end Go.Proofs.YtagjgjhkdihodaaGreat.Am
end
section
set_option linter.unusedVariables false
set_option linter.unusedSimpArgs false
set_option maxRecDepth 100000
set_option maxHeartbeats 8000000
namespace Go.Proofs.YtagjgjhkdihodaaGreat.Am
open Go Go.RowKit Go.Proofs
attribute [local go_sem_proc] Nat.reduceAdd Nat.reduceSub Nat.reduceMul Nat.reduceLT Nat.reduceLeDiff Nat.reduceEqDiff Int.reduceBEq Int.reduceBNe Int.reduceNeg Int.reduceSub Int.reduceLE Int.reduceLT
attribute [local go_sem_proc ↓] reduceIte
attribute [local congr] opsP_congr codeP_congr AWP_congr afterR_congr preP_congr afterPre_congr gPre_congr gOps_congr condP_congr stepE_congr
attribute [local go_sem] ty_int ty_bool ty_str ty_u8 ty_ints ty_bytes ty_page ty_pages ty_lpage ty_lpages ty_rec ty_recs ty_lrec ty_lrecs ty_eng ty_leng
attribute [local go_sem] true_and and_true beq_true' beq_false' toNat_cast Int.natCast_nonneg Bool.not_not Bool.not_true Bool.not_false decide_true decide_false Bool.or_false Bool.false_or Bool.or_true Bool.true_or Bool.and_false Bool.false_and Nat.zero_add Int.toNat_of_nonneg wrap_succ wrap_m1 wrap_nat succ_m1 cast0 succ_pos' succ_ne' succ_bne' ge_iff_le gt_iff_lt if_true if_false
attribute [local go_sem] slt_r slt_I slt_p ty_rd ty_ev ty_evs
/-- A function of an empty slice: for every value that an empty slice has. -/
theorem fn_empty {P : Program} {f : FuncId} {z : Nat} {R : AV → Store → Prop} (h : ∀ A c, Fn P f [.prim (.slice A 0 c)] R) : Fn P f [.sl z []] R := by
  refine ⟨(h none 0).1, fun ok μ w vs hok rs hl hr => ?_⟩
  have h0 := hr 0 (.sl z []) rfl
  obtain ⟨A, c, hv⟩ : ∃ A c, vs.getD 0 undef = .slice A 0 c := by
    generalize vs.getD 0 undef = v at h0
    cases h0 with
    | sl _ _ v hD =>
      cases hD with
      | sl _ _ n A c ad f hn hc hA hz0 hz h1 h2 =>
        simp only [List.length_nil] at hn
        subst hn
        exact ⟨A, c, rfl⟩
  refine (h A c).2 ok μ w vs hok rs hl fun j x hj => ?_
  rcases j with _ | j
  · cases hj
    rw [hv]
    exact .prim _ rfl
  · cases hj
/-- A nil slice that is handed back, as a slice of an object of its own. -/
theorem fin_nil {z : Nat} (hz : 0 < z) {mv : List Nat} {R : AV → Store → Prop} (h : R (.own 0 z 0 0) [some ⟨z, []⟩]) : Fin 0 (.prim (.slice none 0 0)) [] mv (fun r S' mv => R r S' ∧ mv = []) := by
  have hone : ∀ (i : Nat) (o : AObj), ([some ⟨z, []⟩] : Store)[i]? = some (some o) → o = ⟨z, []⟩ := by
    intro i o hi
    rcases i with _ | i
    · cases hi; rfl
    · cases hi
  refine ⟨.own 0 z 0 0, [some ⟨z, []⟩], [], ⟨h, rfl⟩, fun ok w0 μ0 S0 μ a w v tm h0 hr hv => ?_⟩
  have hS0 : S0 = [] := List.eq_nil_of_length_eq_zero h0
  subst hS0
  refine ⟨μ, ⟨fun i o hi hne => ?_, fun i o hi => ?_, fun i j oi oj hi hj hni hnj e => ?_⟩, ?_, fun b _ hl => ?_, by simp, fun i hi => by simp at hi⟩
  · rw [hone i o hi] at hne
    exact absurd rfl hne
  · rw [hone i o hi]
    exact ⟨hz, fun x hx => by simp at hx⟩
  · rw [hone i oi hi] at hni
    exact absurd rfl hni
  · cases hv
    exact .own0 0 z 0 none (by simp)
  · obtain ⟨i, o, hi, hne, _⟩ := hl
    rw [hone i o hi] at hne
    exact absurd rfl hne
theorem CloneR_own (l : List Rc) (hb : l.length < 1000000) : Fn Tryz.prog 124 [recs l] (fun r S => r = .own 0 8 0 l.length ∧ S = [oL l]) := by
  rcases l with _ | ⟨x, l⟩
  · refine fn_empty fun A c => ?_
    refine fn_of Tryz.func124 rfl rfl ?_
    rcases A with _ | A
    · simp -implicitDefEqProofs only [go_sem, Tryz.f124, Option.isNone_none]
      exact fin_nil (by decide) ⟨rfl, rfl⟩
    · simp -implicitDefEqProofs only [go_sem, Tryz.f124, Option.isNone_some]
      (repeat' (first | ((with_reducible first | refine gon ?_ ?_ | refine gos ?_ ?_ | refine cdn ?_ ?_ | refine cds ?_ ?_ | refine gpn ?_ ?_ | refine gps ?_ ?_) <;> intro h <;> (try simp only [dt, df, gi, gt] at h) <;> try simp -implicitDefEqProofs only [go_sem, *]) | ((with_reducible refine And.intro ?_ ?_); (· first | omega | (simp only [List.length_take]; omega)); try simp -implicitDefEqProofs only [go_sem, *]) | fail))
      exact fin_keep [0] (by simp) rfl (keep1 (ob := ⟨8, []⟩) rfl .nil) (rt_own _ rfl) ⟨rfl, rfl⟩
  · have h0 : 0 < (x :: l).length := by simp
    generalize x :: l = l at h0 hb
    refine fn_of Tryz.func124 rfl rfl ?_
    simp -implicitDefEqProofs only [go_sem, Tryz.f124]
    (repeat' (first | ((with_reducible first | refine gon ?_ ?_ | refine gos ?_ ?_ | refine cdn ?_ ?_ | refine cds ?_ ?_ | refine gpn ?_ ?_ | refine gps ?_ ?_) <;> intro h <;> (try simp only [dt, df, gi, gt] at h) <;> try simp -implicitDefEqProofs only [go_sem, *]) | ((with_reducible refine And.intro ?_ ?_); (· first | omega | (simp only [List.length_take]; omega)); try simp -implicitDefEqProofs only [go_sem, *]) | fail))
    exact fin_keep [0] (by simp) rfl (keep1 rfl (a2_r _ _)) (rt_own _ rfl) ⟨rfl, rfl⟩
theorem copies5 (ps : List Pg) (h : Sz ps) : Fn Tryz.prog 123 [pgs ps] (fun r S => r = .own 0 3 0 5 ∧ S = [some ⟨3, ps.map pA⟩]) := by
  have hp5 := h.len
  have hcp := copies_own ps (by omega) (fun p hm => by obtain ⟨k, hk, rfl⟩ := mem_at hm; rw [h.sz k (by omega)]; omega)
  rw [hp5] at hcp
  exact hcp
theorem copiedE_own (e : Eng) (hd : Sz e.disk) (hm : Sz e.mem) (hl : e.log.length < 1000000) : Fn Tryz.prog 62 [eA e] (fun r S => r = eL 0 1 2 e ∧ S = [oP e.disk, oP e.mem, oL e.log]) := by
  refine fn_of Tryz.func62 rfl rfl ?_
  simp -implicitDefEqProofs only [go_sem, Tryz.f62]
  (repeat' (first | ((with_reducible first | refine gon ?_ ?_ | refine gos ?_ ?_ | refine cdn ?_ ?_ | refine cds ?_ ?_ | refine gpn ?_ ?_ | refine gps ?_ ?_) <;> intro h <;> (try simp only [dt, df, gi, gt] at h) <;> try simp -implicitDefEqProofs only [go_sem, *]) | ((with_reducible refine And.intro ?_ ?_); (· first | omega | (simp only [List.length_take]; omega)); try simp -implicitDefEqProofs only [go_sem, *]) | first | ((with_reducible refine cp_draw2 (id := 1) 13 2 mixed ?_ ?_ ?_ ?_); (· decide +kernel); (· first | (simp only [List.all_cons, List.all_nil, List.length_cons, List.length_nil, Nat.reduceAdd, Nat.reduceLT, decide_true, Bool.and_true, Bool.and_self]; done) | rfl); (· rfl); try simp -implicitDefEqProofs only [go_sem, List.append_nil, *]) | ((with_reducible refine pre_made (copies5 e.disk hd) ?_ ?_ ?_ ?_ ?_ ?_); (· rfl); (· intro n; simp only [go_sem, List.map_cons, List.map_nil, Nat.zero_add]); (· intro n; simp only [go_sem]); (· rfl); (· first | exact slt_I | exact slt_p | exact slt_r | rfl); try simp -implicitDefEqProofs only [go_sem, List.map_cons, List.map_nil, *]) | ((with_reducible refine pre_made (copies5 e.mem hm) ?_ ?_ ?_ ?_ ?_ ?_); (· rfl); (· intro n; simp only [go_sem, List.map_cons, List.map_nil, Nat.zero_add]); (· intro n; simp only [go_sem]); (· rfl); (· first | exact slt_I | exact slt_p | exact slt_r | rfl); try simp -implicitDefEqProofs only [go_sem, List.map_cons, List.map_nil, *]) | ((with_reducible refine pre_made (CloneR_own e.log hl) ?_ ?_ ?_ ?_ ?_ ?_); (· rfl); (· intro n; simp only [go_sem, List.map_cons, List.map_nil, Nat.zero_add]); (· intro n; simp only [go_sem]); (· rfl); (· first | exact slt_I | exact slt_p | exact slt_r | rfl); try simp -implicitDefEqProofs only [go_sem, List.map_cons, List.map_nil, *]) | ((with_reducible refine exp_end ?_ ?_); (· decide +kernel); try simp -implicitDefEqProofs only [go_sem, *]) | ((with_reducible refine exp_one 13 ?_ ?_); (· decide +kernel); try simp -implicitDefEqProofs only [go_sem, *]) | ((with_reducible refine exp_one 14 ?_ ?_); (· decide +kernel); try simp -implicitDefEqProofs only [go_sem, *])))
  exact fin_drop [2, 3, 4] [] (by simp) rfl (by decide) (keep3 (o3 := ⟨8, e.log.map rA⟩) rfl rfl rfl (a2_p _ _) (a2_p _ _) (a2_r _ _)) (fun i hi => absurd hi (Nat.not_lt_zero _)) (.of _ _ (rd_eL rfl rfl rfl)) ⟨⟨rfl, rfl⟩, rfl⟩
def zeroE : Eng := ⟨[], [], [], 0, false⟩
theorem rd_ez {S : Store} {b : Bool} : RdT [] S 0 (.tup [.agg [.prim (.slice none 0 0), .prim (.slice none 0 0), .prim (.slice none 0 0), I 0, Bo false], Bo b]) (.tup [eA zeroE, Bo b]) :=
  .tup _ _ (.cons _ _ _ _ (.agg _ _ (.cons _ _ _ _ (.nil 3 (by decide)) (.cons _ _ _ _ (.nil 3 (by decide)) (.cons _ _ _ _ (.nil 8 (by decide)) (.cons _ _ _ _ (.rn _ _ (.same _ rfl)) (.cons _ _ _ _ (.rn _ _ (.same _ rfl)) .nil)))))) (.cons _ _ _ _ (.of _ _ (.rn _ _ (.same _ rfl))) .nil))
theorem rd_oX {S : Store} {i j : Nat} {ea eb : List Pg} {ec : List Rc} {es : Int} {ed b : Bool} (h1 : getO S i = some ⟨3, ea.map pA⟩) (h2 : getO S j = some ⟨3, eb.map pA⟩) (ha : ea.length = 5) (hb : eb.length = 5) : RdT [] S 0 (.tup [.agg [.own i 3 0 5, .own j 3 0 5, recs ec, I es, Bo ed], Bo b]) (.tup [eA ⟨ea, eb, ec, es, ed⟩, Bo b]) :=
  .tup _ _ (.cons _ _ _ _ (.agg _ _ (.cons _ _ _ _ (rd_pgs (Nat.zero_le _) (by simp) h1 ha) (.cons _ _ _ _ (rd_pgs (Nat.zero_le _) (by simp) h2 hb) (.cons _ _ _ _ (.rn _ _ (.same _ rfl)) (.cons _ _ _ _ (.rn _ _ (.same _ rfl)) (.cons _ _ _ _ (.rn _ _ (.same _ rfl)) .nil)))))) (.cons _ _ _ _ (.of _ _ (.rn _ _ (.same _ rfl))) .nil))
theorem rd_oL {S : Store} {i j k n : Nat} {ea eb : List Pg} {ec : List Rc} {es : Int} {ed b : Bool} (h1 : getO S i = some ⟨3, ea.map pA⟩) (h2 : getO S j = some ⟨3, eb.map pA⟩) (h3 : getO S k = some ⟨8, ec.map rA⟩) (ha : ea.length = 5) (hb : eb.length = 5) (hc : n = ec.length) : RdT [] S 0 (.tup [.agg [.own i 3 0 5, .own j 3 0 5, .own k 8 0 n, I es, Bo ed], Bo b]) (.tup [eA ⟨ea, eb, ec, es, ed⟩, Bo b]) :=
  .tup _ _ (.cons _ _ _ _ (.agg _ _ (.cons _ _ _ _ (rd_pgs (Nat.zero_le _) (by simp) h1 ha) (.cons _ _ _ _ (rd_pgs (Nat.zero_le _) (by simp) h2 hb) (.cons _ _ _ _ (rd_recs (Nat.zero_le _) (by simp) h3 hc) (.cons _ _ _ _ (.rn _ _ (.same _ rfl)) (.cons _ _ _ _ (.rn _ _ (.same _ rfl)) .nil)))))) (.cons _ _ _ _ (.of _ _ (.rn _ _ (.same _ rfl))) .nil))
end Go.Proofs.YtagjgjhkdihodaaGreat.Am
end
section
set_option linter.unusedVariables false
set_option linter.unusedSimpArgs false
set_option maxRecDepth 100000
set_option maxHeartbeats 8000000
namespace Go.Proofs.YtagjgjhkdihodaaGreat.Am
open Go Go.RowKit Go.Proofs
attribute [local congr] opsP_congr codeP_congr AWP_congr afterR_congr preP_congr afterPre_congr gPre_congr gOps_congr condP_congr stepE_congr
attribute [local go_sem] ty_int ty_bool ty_str ty_u8 ty_ints ty_bytes ty_page ty_pages ty_lpage ty_lpages ty_rec ty_recs ty_lrec ty_lrecs ty_eng ty_leng
attribute [local go_sem] true_and and_true beq_true' beq_false' toNat_cast Int.natCast_nonneg Bool.not_not Bool.not_true Bool.not_false decide_true decide_false Bool.or_false Bool.false_or Bool.or_true Bool.true_or Bool.and_false Bool.false_and Nat.zero_add Int.toNat_of_nonneg wrap_succ wrap_m1 wrap_nat succ_m1 cast0 succ_pos' succ_ne' succ_bne' ge_iff_le gt_iff_lt if_true if_false
attribute [local go_sem] slt_r slt_I slt_p ty_rd ty_ev ty_evs
theorem zeroE_small : zeroE.small := ⟨by decide, by decide, by decide, fun p hp => absurd hp List.not_mem_nil, fun p hp => absurd hp List.not_mem_nil⟩
theorem ltSame (e : Eng) (h : e.small) : Fn1 Tryz.prog 18 [eA e, eA e] (Bo true) := by
  have := ltEngine_fn e e h
  rwa [sameE_refl] at this
end Go.Proofs.YtagjgjhkdihodaaGreat.Am
end
section
set_option linter.unusedVariables false
set_option linter.unusedSimpArgs false
set_option maxRecDepth 100000
set_option maxHeartbeats 8000000
namespace Go.Proofs.YtagjgjhkdihodaaGreat.Am
open Go Go.RowKit Go.Proofs
attribute [local go_sem_proc] Nat.reduceAdd Nat.reduceSub Nat.reduceMul Nat.reduceLT Nat.reduceLeDiff Nat.reduceEqDiff Int.reduceBEq Int.reduceBNe Int.reduceNeg Int.reduceSub Int.reduceLE Int.reduceLT
attribute [local go_sem_proc ↓] reduceIte
attribute [local congr] opsP_congr codeP_congr AWP_congr afterR_congr preP_congr afterPre_congr gPre_congr gOps_congr condP_congr stepE_congr
attribute [local go_sem] ty_int ty_bool ty_str ty_u8 ty_ints ty_bytes ty_page ty_pages ty_lpage ty_lpages ty_rec ty_recs ty_lrec ty_lrecs ty_eng ty_leng
attribute [local go_sem] true_and and_true beq_true' beq_false' toNat_cast Int.natCast_nonneg Bool.not_not Bool.not_true Bool.not_false decide_true decide_false Bool.or_false Bool.false_or Bool.or_true Bool.true_or Bool.and_false Bool.false_and Nat.zero_add Int.toNat_of_nonneg wrap_succ wrap_m1 wrap_nat succ_m1 cast0 succ_pos' succ_ne' succ_bne' ge_iff_le gt_iff_lt if_true if_false
attribute [local go_sem] slt_r slt_I slt_p ty_rd ty_ev ty_evs
/-- An engine of its own, behind a pointer. -/
abbrev sI (e : Eng) : Store := [some ⟨5, [eL 1 2 3 e]⟩, oP e.disk, oP e.mem, oL e.log]
theorem a2_eL {K : List Nat} {a b c i j k : Nat} {e : Eng} (h0 : K[a]? = some i) (h1 : K[b]? = some j) (h2 : K[c]? = some k) : All2 (Rn1 K) [eL i j k e] [eL a b c e] :=
  .cons _ _ _ _ (.agg _ _ (.cons _ _ _ _ (.own _ _ _ _ _ h0) (.cons _ _ _ _ (.own _ _ _ _ _ h1) (.cons _ _ _ _ (.own _ _ _ _ _ h2) (.cons _ _ _ _ (.same _ rfl) (.cons _ _ _ _ (.same _ rfl) .nil)))))) .nil
theorem keepsI {T : Store} {a i j k : Nat} {e : Eng} (h0 : T[a]? = some (some ⟨5, [eL i j k e]⟩)) (h1 : T[i]? = some (oP e.disk)) (h2 : T[j]? = some (oP e.mem)) (h3 : T[k]? = some (oL e.log)) : Keeps [a, i, j, k] T [a, i, j, k] (sI e) :=
  .cons _ _ _ _ _ h0 rfl (a2_eL rfl rfl rfl) (.cons _ _ _ _ _ h1 rfl (a2_p _ _) (.cons _ _ _ _ _ h2 rfl (a2_p _ _) (.cons _ _ _ _ _ h3 rfl (a2_r _ _) .nil)))
theorem writeI_c (e : Eng) (p : Nat) (hp : p < 5) (hd : Sz e.disk) (hm : Sz e.mem) : AFn1 Tryz.prog 63 [.ref 0 5 0 0, I p] (sI e) (.tup []) (sI (e.write p)) [] := by
  have hd5 := hd.len
  have hm5 := hm.len
  have hb : p < 4611686018427387904 := by omega
  have hsz := hm.sz p hp
  have h5 : (p : Int) < 5 := by omega
  have hcp := copied_fn (at' e.mem (p : Int)) (by omega) (by omega)
  refine afn1_of Tryz.func63 rfl rfl ?_
  simp -implicitDefEqProofs only [go_sem, Tryz.f63]
  (repeat' (first | ((with_reducible first | refine gon ?_ ?_ | refine gos ?_ ?_ | refine cdn ?_ ?_ | refine cds ?_ ?_ | refine gpn ?_ ?_ | refine gps ?_ ?_) <;> intro h <;> (try simp only [dt, df, gi, gt] at h) <;> try simp -implicitDefEqProofs only [go_sem, *]) | ((with_reducible refine And.intro ?_ ?_); (· first | omega | (simp only [List.length_take]; omega)); try simp -implicitDefEqProofs only [go_sem, *]) | first | ((with_reducible refine cp_draw2 (id := 0) 14 3 mixed ?_ ?_ ?_ ?_); (· decide +kernel); (· first | (simp only [List.all_cons, List.all_nil, List.length_cons, List.length_nil, Nat.reduceAdd, Nat.reduceLT, decide_true, Bool.and_true, Bool.and_self]; done) | rfl); (· rfl); try simp -implicitDefEqProofs only [go_sem, List.append_nil, *]) | ((with_reducible refine cp_draw2 (id := 1) 13 2 mixed ?_ ?_ ?_ ?_); (· decide +kernel); (· first | (simp only [List.all_cons, List.all_nil, List.length_cons, List.length_nil, Nat.reduceAdd, Nat.reduceLT, decide_true, Bool.and_true, Bool.and_self]; done) | rfl); (· rfl); try simp -implicitDefEqProofs only [go_sem, List.append_nil, *]) | ((with_reducible refine pre_enter _ (det_pu (hcp) ?_ ?_) ?_ ?_); (· rfl); (· rfl); (· rfl); try simp -implicitDefEqProofs only [go_sem, *]) | ((with_reducible refine exp_end ?_ ?_); (· decide +kernel); try simp -implicitDefEqProofs only [go_sem, *]) | ((with_reducible refine exp_one 14 ?_ ?_); (· decide +kernel); try simp -implicitDefEqProofs only [go_sem, *]) | ((with_reducible refine exp_one 15 ?_ ?_); (· decide +kernel); try simp -implicitDefEqProofs only [go_sem, *]) | ((with_reducible refine exp_one 16 ?_ ?_); (· decide +kernel); try simp -implicitDefEqProofs only [go_sem, *]) | ((with_reducible refine exp_one 13 ?_ ?_); (· decide +kernel); try simp -implicitDefEqProofs only [go_sem, *])))
  exact fin_same ⟨rfl, rfl, rfl⟩
def writeE (e : Eng) (page : Int) : Eng × Bool := if okE e = true ∧ e.down = false ∧ isIn page 0 4 = true then (e.write page, true) else (zeroE, false)
theorem EngineWriteS_fn (e : Eng) (page : Int) (h : e.small) : Fn1 Tryz.prog 16 [eA e, I page] (.tup [eA (writeE e page).1, Bo (writeE e page).2]) := by
  obtain ⟨ea, eb, ec, es, ed⟩ := e
  have c1 := okS ⟨ea, eb, ec, es, ed⟩ h
  have c3 := l6In_fn page 0 4
  refine fn1_of Tryz.func16 rfl rfl ?_
  unfold writeE
  obtain ⟨ok, hok⟩ : ∃ ok, okE ⟨ea, eb, ec, es, ed⟩ = ok := ⟨_, rfl⟩
  rw [hok] at c1 ⊢
  rcases ok with _ | _
  · rw [if_neg (by simp)]
    simp -implicitDefEqProofs only [go_sem, Tryz.f16]
    (repeat' (first | ((with_reducible first | refine gon ?_ ?_ | refine gos ?_ ?_ | refine cdn ?_ ?_ | refine cds ?_ ?_ | refine gpn ?_ ?_ | refine gps ?_ ?_) <;> intro h <;> (try simp only [dt, df, gi, gt] at h) <;> try simp -implicitDefEqProofs only [go_sem, *]) | ((with_reducible refine And.intro ?_ ?_); (· first | omega | (simp only [List.length_take]; omega)); try simp -implicitDefEqProofs only [go_sem, *]) | first | ((with_reducible refine enter_pu (c1) ?_ ?_ ?_); (· rfl); (· rfl); try simp -implicitDefEqProofs only [go_sem, *]) | ((with_reducible refine enter_pu (c3) ?_ ?_ ?_); (· rfl); (· rfl); try simp -implicitDefEqProofs only [go_sem, *])))
    all_goals exact fin_drawn rd_ez ⟨⟨rfl, rfl⟩, rfl⟩
  rcases ed with _ | _
  rotate_left
  · rw [if_neg (by simp)]
    simp -implicitDefEqProofs only [go_sem, Tryz.f16]
    (repeat' (first | ((with_reducible first | refine gon ?_ ?_ | refine gos ?_ ?_ | refine cdn ?_ ?_ | refine cds ?_ ?_ | refine gpn ?_ ?_ | refine gps ?_ ?_) <;> intro h <;> (try simp only [dt, df, gi, gt] at h) <;> try simp -implicitDefEqProofs only [go_sem, *]) | ((with_reducible refine And.intro ?_ ?_); (· first | omega | (simp only [List.length_take]; omega)); try simp -implicitDefEqProofs only [go_sem, *]) | first | ((with_reducible refine enter_pu (c1) ?_ ?_ ?_); (· rfl); (· rfl); try simp -implicitDefEqProofs only [go_sem, *]) | ((with_reducible refine enter_pu (c3) ?_ ?_ ?_); (· rfl); (· rfl); try simp -implicitDefEqProofs only [go_sem, *])))
    all_goals exact fin_drawn rd_ez ⟨⟨rfl, rfl⟩, rfl⟩
  rcases hin : isIn page 0 4 with _ | _
  · rw [if_neg (by simp)]
    rw [hin] at c3
    simp -implicitDefEqProofs only [go_sem, Tryz.f16]
    (repeat' (first | ((with_reducible first | refine gon ?_ ?_ | refine gos ?_ ?_ | refine cdn ?_ ?_ | refine cds ?_ ?_ | refine gpn ?_ ?_ | refine gps ?_ ?_) <;> intro h <;> (try simp only [dt, df, gi, gt] at h) <;> try simp -implicitDefEqProofs only [go_sem, *]) | ((with_reducible refine And.intro ?_ ?_); (· first | omega | (simp only [List.length_take]; omega)); try simp -implicitDefEqProofs only [go_sem, *]) | first | ((with_reducible refine enter_pu (c1) ?_ ?_ ?_); (· rfl); (· rfl); try simp -implicitDefEqProofs only [go_sem, *]) | ((with_reducible refine enter_pu (c3) ?_ ?_ ?_); (· rfl); (· rfl); try simp -implicitDefEqProofs only [go_sem, *])))
    all_goals exact fin_drawn rd_ez ⟨⟨rfl, rfl⟩, rfl⟩
  rw [if_pos ⟨rfl, rfl, rfl⟩]
  rw [hin] at c3
  have hi := inv_of_ok hok
  have hd5 : ea.length = 5 := hi.disk.len
  have hm5 : eb.length = 5 := hi.mem.len
  obtain ⟨k, hk, rfl⟩ : ∃ k : Nat, k < 5 ∧ page = (k : Int) := page_nat (by unfold isIn at hin; simpa using hin)
  have c2 := l11Copy_c ⟨ea, eb, ec, es, false⟩ hi.disk.sz hi.mem.sz (by have := hi.len; omega)
  have c4 := l11Write_c ⟨ea, eb, ec, es, false⟩ k hk hi.disk.sz hi.mem.sz
  clear hok hin
  simp -implicitDefEqProofs only [go_sem, Tryz.f16]
  (repeat' (first | ((with_reducible first | refine gon ?_ ?_ | refine gos ?_ ?_ | refine cdn ?_ ?_ | refine cds ?_ ?_ | refine gpn ?_ ?_ | refine gps ?_ ?_) <;> intro h <;> (try simp only [dt, df, gi, gt] at h) <;> try simp -implicitDefEqProofs only [go_sem, *]) | ((with_reducible refine And.intro ?_ ?_); (· first | omega | (simp only [List.length_take]; omega)); try simp -implicitDefEqProofs only [go_sem, *]) | first | ((with_reducible refine enter_pu (c1) ?_ ?_ ?_); (· rfl); (· rfl); try simp -implicitDefEqProofs only [go_sem, *]) | ((with_reducible refine enter_pu (c3) ?_ ?_ ?_); (· rfl); (· rfl); try simp -implicitDefEqProofs only [go_sem, *]) | ((with_reducible refine enter_fn (c2) ?_ ?_); (· rfl); try simp -implicitDefEqProofs only [go_sem, *]) | ((with_reducible refine enter_at1 [2, 3] (M2 := []) (c4) (by decide) ?_ ?_ rfl ?_); (· repeat (first | exact Keeps.nil | (refine Keeps.cons _ _ _ _ _ rfl rfl ?_ ?_; (· first | exact a2_p _ _ | exact a2_1 rfl | exact a2_I _ _)))); (· repeat (first | exact All2.nil | (refine All2.cons _ _ _ _ ?_ ?_; (· first | exact rnT_eX rfl rfl | exact rnT_prim | exact rnT_sl | exact rnT_ref rfl | exact rnT_agg rfl | exact rnT_own rfl | exact rnT_eX5 rfl rfl)))); try simp -implicitDefEqProofs only [go_sem, *])))
  all_goals exact fin_drawn (rd_oX rfl rfl (by show (List.set _ _ _).length = 5; rw [List.length_set]; exact hd5) hm5) ⟨⟨rfl, rfl⟩, rfl⟩
theorem EngineWriteI_fn (e : Eng) (page : Int) (h : e.small) : Fn1 Tryz.prog 17 [eA e, I page] (.tup [eA (writeE e page).1, Bo (writeE e page).2]) := by
  obtain ⟨ea, eb, ec, es, ed⟩ := e
  have c1 := okI ⟨ea, eb, ec, es, ed⟩ h
  have c3 := isPage_fn page
  refine fn1_of Tryz.func17 rfl rfl ?_
  unfold writeE
  obtain ⟨ok, hok⟩ : ∃ ok, okE ⟨ea, eb, ec, es, ed⟩ = ok := ⟨_, rfl⟩
  rw [hok] at c1 ⊢
  rcases ok with _ | _
  · rw [if_neg (by simp)]
    simp -implicitDefEqProofs only [go_sem, Tryz.f17]
    (repeat' (first | ((with_reducible first | refine gon ?_ ?_ | refine gos ?_ ?_ | refine cdn ?_ ?_ | refine cds ?_ ?_ | refine gpn ?_ ?_ | refine gps ?_ ?_) <;> intro h <;> (try simp only [dt, df, gi, gt] at h) <;> try simp -implicitDefEqProofs only [go_sem, *]) | ((with_reducible refine And.intro ?_ ?_); (· first | omega | (simp only [List.length_take]; omega)); try simp -implicitDefEqProofs only [go_sem, *]) | first | ((with_reducible refine enter_pu (c1) ?_ ?_ ?_); (· rfl); (· rfl); try simp -implicitDefEqProofs only [go_sem, *]) | ((with_reducible refine enter_pu (c3) ?_ ?_ ?_); (· rfl); (· rfl); try simp -implicitDefEqProofs only [go_sem, *])))
    all_goals exact fin_drawn rd_ez ⟨⟨rfl, rfl⟩, rfl⟩
  rcases ed with _ | _
  rotate_left
  · rw [if_neg (by simp)]
    simp -implicitDefEqProofs only [go_sem, Tryz.f17]
    (repeat' (first | ((with_reducible first | refine gon ?_ ?_ | refine gos ?_ ?_ | refine cdn ?_ ?_ | refine cds ?_ ?_ | refine gpn ?_ ?_ | refine gps ?_ ?_) <;> intro h <;> (try simp only [dt, df, gi, gt] at h) <;> try simp -implicitDefEqProofs only [go_sem, *]) | ((with_reducible refine And.intro ?_ ?_); (· first | omega | (simp only [List.length_take]; omega)); try simp -implicitDefEqProofs only [go_sem, *]) | first | ((with_reducible refine enter_pu (c1) ?_ ?_ ?_); (· rfl); (· rfl); try simp -implicitDefEqProofs only [go_sem, *]) | ((with_reducible refine enter_pu (c3) ?_ ?_ ?_); (· rfl); (· rfl); try simp -implicitDefEqProofs only [go_sem, *])))
    all_goals exact fin_drawn rd_ez ⟨⟨rfl, rfl⟩, rfl⟩
  rcases hin : isIn page 0 4 with _ | _
  · rw [if_neg (by simp)]
    rw [hin] at c3
    simp -implicitDefEqProofs only [go_sem, Tryz.f17]
    (repeat' (first | ((with_reducible first | refine gon ?_ ?_ | refine gos ?_ ?_ | refine cdn ?_ ?_ | refine cds ?_ ?_ | refine gpn ?_ ?_ | refine gps ?_ ?_) <;> intro h <;> (try simp only [dt, df, gi, gt] at h) <;> try simp -implicitDefEqProofs only [go_sem, *]) | ((with_reducible refine And.intro ?_ ?_); (· first | omega | (simp only [List.length_take]; omega)); try simp -implicitDefEqProofs only [go_sem, *]) | first | ((with_reducible refine enter_pu (c1) ?_ ?_ ?_); (· rfl); (· rfl); try simp -implicitDefEqProofs only [go_sem, *]) | ((with_reducible refine enter_pu (c3) ?_ ?_ ?_); (· rfl); (· rfl); try simp -implicitDefEqProofs only [go_sem, *])))
    all_goals exact fin_drawn rd_ez ⟨⟨rfl, rfl⟩, rfl⟩
  rw [if_pos ⟨rfl, rfl, rfl⟩]
  rw [hin] at c3
  have hi := inv_of_ok hok
  have hd5 : ea.length = 5 := hi.disk.len
  have hm5 : eb.length = 5 := hi.mem.len
  obtain ⟨k, hk, rfl⟩ : ∃ k : Nat, k < 5 ∧ page = (k : Int) := page_nat (by unfold isIn at hin; simpa using hin)
  have c2 := copiedE_own ⟨ea, eb, ec, es, false⟩ hi.disk.sz hi.mem.sz (by have := hi.len; omega)
  have c4 := writeI_c ⟨ea, eb, ec, es, false⟩ k hk hi.disk.sz hi.mem.sz
  clear hok hin
  simp -implicitDefEqProofs only [go_sem, Tryz.f17]
  (repeat' (first | ((with_reducible first | refine gon ?_ ?_ | refine gos ?_ ?_ | refine cdn ?_ ?_ | refine cds ?_ ?_ | refine gpn ?_ ?_ | refine gps ?_ ?_) <;> intro h <;> (try simp only [dt, df, gi, gt] at h) <;> try simp -implicitDefEqProofs only [go_sem, *]) | ((with_reducible refine And.intro ?_ ?_); (· first | omega | (simp only [List.length_take]; omega)); try simp -implicitDefEqProofs only [go_sem, *]) | first | ((with_reducible refine enter_pu (c1) ?_ ?_ ?_); (· rfl); (· rfl); try simp -implicitDefEqProofs only [go_sem, *]) | ((with_reducible refine enter_pu (c3) ?_ ?_ ?_); (· rfl); (· rfl); try simp -implicitDefEqProofs only [go_sem, *]) | ((with_reducible refine enter_fn (c2) ?_ ?_); (· rfl); try simp -implicitDefEqProofs only [go_sem, *]) | ((with_reducible refine enter_at1 [5, 2, 3, 4] (M2 := []) c4 (by decide) ?_ ?_ rfl ?_); (· exact keepsI rfl rfl rfl rfl); (· repeat (first | exact All2.nil | (refine All2.cons _ _ _ _ ?_ ?_; (· first | exact rnT_eX rfl rfl | exact rnT_prim | exact rnT_sl | exact rnT_ref rfl | exact rnT_agg rfl | exact rnT_own rfl | exact rnT_eX5 rfl rfl)))); try simp -implicitDefEqProofs only [go_sem, *])))
  all_goals exact fin_drawn (rd_oL rfl rfl rfl (by show (List.set _ _ _).length = 5; rw [List.length_set]; exact hd5) hm5 rfl) ⟨⟨rfl, rfl⟩, rfl⟩
end Go.Proofs.YtagjgjhkdihodaaGreat.Am
end
section
set_option linter.unusedVariables false
set_option linter.unusedSimpArgs false
set_option maxRecDepth 100000
set_option maxHeartbeats 8000000
namespace Go.Proofs.YtagjgjhkdihodaaGreat.Am
open Go Go.RowKit Go.Proofs
attribute [local congr] opsP_congr codeP_congr AWP_congr afterR_congr preP_congr afterPre_congr gPre_congr gOps_congr condP_congr stepE_congr
attribute [local go_sem] ty_int ty_bool ty_str ty_u8 ty_ints ty_bytes ty_page ty_pages ty_lpage ty_lpages ty_rec ty_recs ty_lrec ty_lrecs ty_eng ty_leng
attribute [local go_sem] true_and and_true beq_true' beq_false' toNat_cast Int.natCast_nonneg Bool.not_not Bool.not_true Bool.not_false decide_true decide_false Bool.or_false Bool.false_or Bool.or_true Bool.true_or Bool.and_false Bool.false_and Nat.zero_add Int.toNat_of_nonneg wrap_succ wrap_m1 wrap_nat succ_m1 cast0 succ_pos' succ_ne' succ_bne' ge_iff_le gt_iff_lt if_true if_false
attribute [local go_sem] slt_r slt_I slt_p ty_rd ty_ev ty_evs
/-- Pages that undoing takes alike: both are fit, and their owners are the same. -/
structure Alike (q q' : List Pg) : Prop where
  l1 : q.length = 5
  l2 : q'.length = 5
  ok1 : ∀ k : Nat, k < 5 → (at' q (k : Int)).ok = true
  ok2 : ∀ k : Nat, k < 5 → (at' q' (k : Int)).ok = true
  own : ∀ k : Nat, k < 5 → (at' q (k : Int)).owner = (at' q' (k : Int)).owner
theorem good_iff {p : Pg} (h : p.vals.length = 3) : p.ok = true ↔ (0 ≤ p.lsn ∧ p.lsn ≤ 150) ∧ (0 ≤ p.owner ∧ p.owner ≤ 3) ∧ ∀ k : Nat, k < 3 → (0 ≤ at' p.vals (k : Int) ∧ at' p.vals (k : Int) ≤ 9) ∧ (p.owner ≠ 0 ∨ at' p.vals (k : Int) = 0) := by
  unfold Pg.ok isIn
  simp only [Bool.and_eq_true, decide_eq_true_eq, allFrom_iff, h]
  unfold Pg.good isIn
  simp only [Bool.and_eq_true, Bool.or_eq_true, decide_eq_true_eq, bne_iff_ne, beq_iff_eq]
  constructor
  · rintro ⟨⟨⟨a, b⟩, -⟩, c⟩
    exact ⟨a, b, fun k hk => c k (Nat.zero_le _) hk⟩
  · rintro ⟨a, b, c⟩
    exact ⟨⟨⟨a, b⟩, trivial⟩, fun k _ hk => c k hk⟩
/-- A change of a fit page is fit or not by its owner alone. -/
theorem doP_alike {p p' : Pg} {r : Rc} {n n' : Int} (h1 : p.ok = true) (h2 : p'.ok = true) (ho : p.owner = p'.owner) (hn : 0 ≤ n' ∧ n' ≤ 150) (hs : r.slot ≤ 2) (h : (doP p r n).ok = true) : (doP p' r n').ok = true ∧ (doP p r n).owner = (doP p' r n').owner := by
  have l1 := Pg.ok_len h1
  have l2 := Pg.ok_len h2
  have g2 := (good_iff l2).1 h2
  have hl : (doP p r n).vals.length = 3 := doP_sz l1
  have hl2 : (doP p' r n').vals.length = 3 := doP_sz l2
  have g := (good_iff hl).1 h
  rw [good_iff hl2]
  unfold doP at g ⊢
  by_cases hc : 0 ≤ r.slot
  · rw [if_pos hc] at g ⊢
    rw [if_pos hc]
    simp only at g ⊢
    have hkb : r.slot.toNat < 3 := by omega
    refine ⟨⟨hn, g2.2.1, fun k hk => ?_⟩, ho⟩
    have gk := g.2.2 r.slot.toNat hkb
    rw [at_setI _ _ _ _ (by omega), if_pos rfl] at gk
    rw [at_setI _ _ _ _ (by omega)]
    by_cases hkk : k = r.slot.toNat
    · rw [if_pos hkk]
      rw [← ho]
      exact gk
    · rw [if_neg hkk]
      exact g2.2.2 k hk
  · rw [if_neg hc] at g ⊢
    rw [if_neg hc]
    simp only at g ⊢
    refine ⟨⟨hn, g.2.1, fun k hk => ?_⟩, trivial⟩
    by_cases h0 : r.new = 0
    · rw [if_pos h0]
      have : k = 0 ∨ k = 1 ∨ k = 2 := by omega
      rcases this with rfl | rfl | rfl <;> exact ⟨⟨by decide, by decide⟩, .inr rfl⟩
    · rw [if_neg h0]
      exact ⟨(g2.2.2 k hk).1, .inl h0⟩
theorem undo_alike {l : List Rc} (hw : Wf l) : ∀ (us : List Nat) {q q' r : List Pg}, (∀ n ∈ us, ∃ b, n = b + 1 ∧ b < l.length) → Alike q q' → undoAll l q us = some r → ∃ r', undoAll l q' us = some r' ∧ Alike r r'
  | [], q, q', r, _, ha, h => by
    cases h
    exact ⟨q', rfl, ha⟩
  | n :: us, q, q', r, hus, ha, h => by
    obtain ⟨b, rfl, hb⟩ := hus n (by simp)
    have hrok := hw.rok b hb
    obtain ⟨m, hm, hpg⟩ := Rc.ok_page hrok
    have hsl := Rc.ok_slot hrok
    rcases hu : (undoP l q b).ok with _ | _
    · rw [undoAll_no hu] at h
      cases h
    · rw [undoAll_ok hu] at h
      have hm5 : m < 5 := by omega
      have e1 : (at' q (at' l (b : Int)).page).ok = true := by rw [hpg]; exact ha.ok1 m hm5
      have e2 : (at' q' (at' l (b : Int)).page).ok = true := by rw [hpg]; exact ha.ok2 m hm5
      have e3 : (at' q (at' l (b : Int)).page).owner = (at' q' (at' l (b : Int)).page).owner := by rw [hpg]; exact ha.own m hm5
      obtain ⟨u1, u2⟩ := doP_alike (r := (at' l (b : Int)).back 0) (n' := (at' q' (at' l (b : Int)).page).lsn) e1 e2 e3 (Pg.ok_lsn e2) hsl.2 hu
      have hu' : (undoP l q' b).ok = true := u1
      rw [undoAll_ok hu']
      refine undo_alike hw us (fun n hn => hus n (by simp [hn])) ⟨?_, ?_, ?_, ?_, ?_⟩ h
      · rw [List.length_set]; exact ha.l1
      · rw [List.length_set]; exact ha.l2
      · intro k hk
        rw [hpg, Int.toNat_natCast, at_set _ _ _ _ (by rw [ha.l1]; omega)]
        split
        · exact hu
        · exact ha.ok1 k hk
      · intro k hk
        rw [hpg, Int.toNat_natCast, at_set _ _ _ _ (by rw [ha.l2]; omega)]
        split
        · exact hu'
        · exact ha.ok2 k hk
      · intro k hk
        rw [hpg, Int.toNat_natCast, at_set _ _ _ _ (by rw [ha.l1]; omega), at_set _ _ _ _ (by rw [ha.l2]; omega)]
        split
        · exact u2
        · exact ha.own k hk
theorem undoFrom_alike {l : List Rc} (hw : Wf l) {q q' : List Pg} (ha : Alike q q') {t : Nat} (h : (undoFrom l q t).isSome = true) : (undoFrom l q' t).isSome = true := by
  induction hm : 3 - t generalizing t q q' with
  | zero => rw [undoFrom_ge (by omega)]; rfl
  | succ m ih =>
    rw [undoFrom_lt (by omega)] at h ⊢
    rcases hu : undoAll l q (undosN l (lastN l ((t + 1 : Nat) : Int))) with _ | r
    · rw [hu] at h; cases h
    · obtain ⟨r', e, hr⟩ := undo_alike hw _ (fun n hn => undosN_mem hw _ (lastN_le _ _) hn) ha hu
      rw [hu] at h
      rw [e]
      exact ih hr h (by omega)
theorem undone_alike {l : List Rc} (hw : Wf l) {q q' : List Pg} (ha : Alike q q') (h : undoneB q l = true) : undoneB q' l = true := undoFrom_alike hw ha h
theorem redo1_at {q : List Pg} (hq : q.length = 5) {r : Rc} (hr : r.ok = true) (i k : Nat) (hk : k < 5) : at' (redo1 q r i) (k : Int) = if chg r.kind = true ∧ r.page = (k : Int) ∧ (at' q (k : Int)).lsn < ((i + 1 : Nat) : Int) then doP (at' q (k : Int)) r ((i + 1 : Nat) : Int) else at' q (k : Int) := by
  obtain ⟨m, hm, hpg⟩ := Rc.ok_page hr
  unfold redo1
  by_cases hp : r.page = (k : Int)
  · rw [hp, Int.toNat_natCast]
    by_cases hc : chg r.kind = true ∧ (at' q (k : Int)).lsn < ((i + 1 : Nat) : Int)
    · rw [if_pos hc, if_pos ⟨hc.1, rfl, hc.2⟩, at_set _ _ _ _ (by omega), if_pos rfl]
    · rw [if_neg hc, if_neg (show ¬ (chg r.kind = true ∧ (k : Int) = (k : Int) ∧ (at' q (k : Int)).lsn < ((i + 1 : Nat) : Int)) from fun h => hc ⟨h.1, h.2.2⟩)]
  · rw [if_neg (show ¬ (chg r.kind = true ∧ r.page = (k : Int) ∧ (at' q (k : Int)).lsn < ((i + 1 : Nat) : Int)) from fun h => hp h.2.1)]
    split
    · rw [hpg, Int.toNat_natCast, at_set _ _ _ _ (by omega), if_neg (by omega)]
    · rfl
theorem redo_other {ps : List Pg} {l : List Rc} (hs : Sz ps) (hw : Wf l) {p : Nat} {x : Pg} (hx : x.sz) {k : Nat} (hk : k < 5) (hp : p < 5) (hne : k ≠ p) : ∀ n, n ≤ l.length → at' (redoTo (ps.set p x) l n) (k : Int) = at' (redoTo ps l n) (k : Int)
  | 0, _ => by
    unfold redoTo
    rw [at_set _ _ _ _ (by rw [hs.len]; omega), if_neg hne]
  | n + 1, hn => by
    have ih := redo_other hs hw hx hk hp hne n (by omega)
    have hs2 : Sz (ps.set p x) := hs.set p x hx
    unfold redoTo
    rw [redo1_at (redoTo_sz hs2 hw n (by omega)).len (hw.rok n (by omega)) n k hk, redo1_at (redoTo_sz hs hw n (by omega)).len (hw.rok n (by omega)) n k hk, ih]
theorem redo_skip {ps : List Pg} {l : List Rc} (hs : Sz ps) (hw : Wf l) {p : Nat} {x : Pg} (hx : x.sz) (hp : p < 5) (hl : ∀ i : Nat, i < l.length → chg (at' l (i : Int)).kind = true → (at' l (i : Int)).page = (p : Int) → ((i + 1 : Nat) : Int) ≤ x.lsn) : ∀ n, n ≤ l.length → at' (redoTo (ps.set p x) l n) (p : Int) = x
  | 0, _ => by
    unfold redoTo
    rw [at_set _ _ _ _ (by rw [hs.len]; omega), if_pos rfl]
  | n + 1, hn => by
    have ih := redo_skip hs hw hx hp hl n (by omega)
    have hs2 : Sz (ps.set p x) := hs.set p x hx
    unfold redoTo
    rw [redo1_at (redoTo_sz hs2 hw n (by omega)).len (hw.rok n (by omega)) n p hp, ih, if_neg]
    rintro ⟨h1, h2, h3⟩
    have := hl n (by omega) h1 h2
    omega
theorem redo_ge {ps : List Pg} {l : List Rc} (hs : Sz ps) (hw : Wf l) {p : Nat} (hp : p < 5) {i : Nat} (hc : chg (at' l (i : Int)).kind = true) (hpg : (at' l (i : Int)).page = (p : Int)) : ∀ n, n ≤ l.length → i < n → ((i + 1 : Nat) : Int) ≤ (at' (redoTo ps l n) (p : Int)).lsn
  | 0, _, h => by omega
  | n + 1, hn, h => by
    unfold redoTo
    rw [redo1_at (redoTo_sz hs hw n (by omega)).len (hw.rok n (by omega)) n p hp]
    have hd : (doP (at' (redoTo ps l n) (p : Int)) (at' l (n : Int)) ((n + 1 : Nat) : Int)).lsn = ((n + 1 : Nat) : Int) := by unfold doP; split <;> rfl
    by_cases hi : i = n
    · subst hi
      split
      · rw [hd]; exact Int.le_refl _
      · rename_i h2
        exact Int.not_lt.1 fun h3 => h2 ⟨hc, hpg, h3⟩
    · have ih := redo_ge hs hw hp hc hpg n (by omega) (by omega)
      split
      · rw [hd]; omega
      · exact ih
theorem redo_after {ps : List Pg} {l : List Rc} (hs : Sz ps) (hw : Wf l) {p : Nat} (hp : p < 5) {k : Nat} (hl : ∀ i : Nat, i < l.length → chg (at' l (i : Int)).kind = true → (at' l (i : Int)).page = (p : Int) → i < k) : ∀ n, k ≤ n → n ≤ l.length → at' (redoTo ps l n) (p : Int) = at' (redoTo ps l k) (p : Int)
  | 0, h, _ => by rw [show k = 0 by omega]
  | n + 1, h, hn => by
    by_cases hk : k = n + 1
    · rw [hk]
    · have ih := redo_after hs hw hp hl n (by omega) (by omega)
      rw [redoTo, redo1_at (redoTo_sz hs hw n (by omega)).len (hw.rok n (by omega)) n p hp, if_neg, ih]
      rintro ⟨h1, h2, h3⟩
      have := hl n (by omega) h1 h2
      omega
theorem pageTo_ge {l : List Rc} {p : Int} {i : Nat} (h : (at' l (i : Int)).page = p ∧ (chg (at' l (i : Int)).kind = true ∨ (at' l (i : Int)).kind = 3)) : ∀ n, i < n → i + 1 ≤ pageTo l p n
  | 0, hn => by omega
  | n + 1, hn => by
    rw [pageTo]
    by_cases hi : i = n
    · subst hi
      rw [if_pos h]
      exact Nat.le_refl _
    · have := pageTo_ge h n (by omega)
      split <;> omega
/-- No change of a page is later than what is in memory. -/
theorem mem_last {e : Eng} (h : okE e = true) (hd : e.down = false) {p : Nat} (hp : p < 5) (i : Nat) (hi : i < e.log.length) (hc : chg (at' e.log (i : Int)).kind = true) (hpg : (at' e.log (i : Int)).page = (p : Int)) : ((i + 1 : Nat) : Int) ≤ (at' e.mem (p : Int)).lsn := by
  have ho := okE_iff.1 h
  have hv := inv_of_ok h
  obtain ⟨_, h2, _⟩ := pgB_iff.1 (ho.pg p hp)
  rw [if_neg (by rw [hd]; decide)] at h2
  unfold memB at h2
  split at h2
  · unfold freshB at h2
    simp only [Bool.and_eq_true, beq_iff_eq] at h2
    have := pageTo_ge ⟨hpg, .inl hc⟩ e.log.length hi
    omega
  · rw [sameP_iff.1 h2]
    exact redo_ge hv.disk.sz hv.wf hp hc hpg _ (Nat.le_refl _) hi
theorem mem_own {e : Eng} (h : okE e = true) (hd : e.down = false) {p : Nat} (hp : p < 5) : (at' e.mem (p : Int)).owner = (at' e.redo (p : Int)).owner := by
  have ho := okE_iff.1 h
  obtain ⟨_, h2, _⟩ := pgB_iff.1 (ho.pg p hp)
  rw [if_neg (by rw [hd]; decide)] at h2
  unfold memB at h2
  split at h2
  · simp only [Bool.and_eq_true, beq_iff_eq] at h2
    exact h2.1
  · rw [sameP_iff.1 h2]
theorem write_ok {e : Eng} (h : okE e = true) (hd : e.down = false) {p : Nat} (hp : p < 5) : okE (e.write (p : Int)) = true := by
  obtain ⟨ea, eb, ec, es, ed⟩ := e
  simp only at hd
  subst hd
  have ho := okE_iff.1 h
  have hv := inv_of_ok h
  have hsz : Sz ea := hv.disk.sz
  have hw : Wf ec := hv.wf
  have hm5 : eb.length = 5 := hv.mem.len
  have hpok : (at' eb (p : Int)).ok = true := (pgsOk_iff.1 ho.mem).2 p hp
  have hx : (at' eb (p : Int)).sz := Pg.ok_len hpok
  have hlast := fun i hi hc hpg => mem_last h rfl hp i hi hc hpg
  have hown := mem_own h rfl hp
  simp only at hlast hown
  have hL := hv.ml p hp
  have hsf := ho.safe
  simp only at hL hsf
  have hdk : ∀ k : Nat, k < 5 → (at' ea (k : Int)).ok = true := (pgsOk_iff.1 ho.disk).2
  have hset : ∀ k : Nat, k < 5 → at' (ea.set p (at' eb (p : Int))) (k : Int) = if k = p then at' eb (p : Int) else at' ea (k : Int) := fun k hk => at_set _ _ _ _ (by rw [hsz.len]; omega)
  have hskip := redo_skip hsz hw hx hp hlast
  have e0 : (⟨ea, eb, ec, es, false⟩ : Eng).write (p : Int) = ⟨ea.set p (at' eb (p : Int)), eb, ec, max es (at' eb (p : Int)).lsn, false⟩ := rfl
  rw [e0]
  refine okE_iff.2 ⟨pgsOk_iff.2 ⟨by rw [List.length_set]; exact hsz.len, fun k hk => ?_⟩, ho.mem, ho.log, ⟨by simp only; omega, by simp only; omega⟩, ho.room, fun k h1 h2 => ?_, fun k hk => ?_⟩
  · simp only
    rw [hset k hk]
    split
    · exact hpok
    · exact hdk k hk
  · simp only at h1 h2
    have hpre := ho.pre k (by simp only; omega) h2
    unfold preB at hpre ⊢
    simp only [Bool.and_eq_true] at hpre ⊢
    have hal : Alike (redoTo ea ec k) (redoTo (ea.set p (at' eb (p : Int))) ec k) := by
      refine ⟨(redoTo_sz hsz hw k (by omega)).len, (redoTo_sz (hsz.set p _ hx) hw k (by omega)).len, (pgsOk_iff.1 hpre.1).2, fun j hj => ?_, fun j hj => ?_⟩
      · by_cases hjp : j = p
        · subst hjp
          rw [hskip k (by omega)]
          exact hpok
        · rw [redo_other hsz hw hx hj hp hjp k (by omega)]
          exact (pgsOk_iff.1 hpre.1).2 j hj
      · by_cases hjp : j = p
        · subst hjp
          rw [hskip k (by omega), hown]
          unfold Eng.redo
          simp only
          rw [redo_after hsz hw hj (k := k) (fun i hi hc hpg => by have := hlast i hi hc hpg; omega) ec.length (by omega) (Nat.le_refl _)]
        · rw [redo_other hsz hw hx hj hp hjp k (by omega)]
    exact ⟨pgsOk_iff.2 ⟨hal.l2, hal.ok2⟩, undone_alike (hw.take k) hal hpre.2⟩
  · obtain ⟨g1, g2, g3⟩ := pgB_iff.1 (ho.pg k hk)
    rw [if_neg (by simp)] at g2
    simp only at g1
    refine pgB_iff.2 ⟨?_, ?_, g3⟩
    · simp only
      rw [hset k hk]
      split <;> omega
    · rw [if_neg (by simp)]
      unfold memB at g2 ⊢
      unfold freshB Eng.redo at g2 ⊢
      simp only at g2 ⊢
      rw [hset k hk]
      by_cases hkp : k = p
      · subst hkp
        rw [if_pos rfl, hskip ec.length (Nat.le_refl _)]
        split at g2
        · rename_i hl
          rw [if_pos hl]
          simp only [Bool.and_eq_true] at g2 ⊢
          exact ⟨by simp, g2.2.1, by rw [sameP_refl, Bool.or_true]⟩
        · rename_i hl
          rw [if_neg hl]
          exact sameP_refl _
      · rw [if_neg hkp, redo_other hsz hw hx hk hp hkp ec.length (Nat.le_refl _)]
        exact g2
end Go.Proofs.YtagjgjhkdihodaaGreat.Am
end
section
set_option linter.unusedVariables false
set_option linter.unusedSimpArgs false
set_option maxRecDepth 100000
set_option maxHeartbeats 8000000
namespace Go.Proofs.YtagjgjhkdihodaaGreat.Am
open Go Go.RowKit Go.Proofs
attribute [local go_sem_proc] Nat.reduceAdd Nat.reduceSub Nat.reduceMul Nat.reduceLT Nat.reduceLeDiff Nat.reduceEqDiff Int.reduceBEq Int.reduceBNe Int.reduceNeg Int.reduceSub Int.reduceLE Int.reduceLT
attribute [local go_sem_proc ↓] reduceIte
attribute [local congr] opsP_congr codeP_congr AWP_congr afterR_congr preP_congr afterPre_congr gPre_congr gOps_congr condP_congr stepE_congr
attribute [local go_sem] ty_int ty_bool ty_str ty_u8 ty_ints ty_bytes ty_page ty_pages ty_lpage ty_lpages ty_rec ty_recs ty_lrec ty_lrecs ty_eng ty_leng
attribute [local go_sem] true_and and_true beq_true' beq_false' toNat_cast Int.natCast_nonneg Bool.not_not Bool.not_true Bool.not_false decide_true decide_false Bool.or_false Bool.false_or Bool.or_true Bool.true_or Bool.and_false Bool.false_and Nat.zero_add Int.toNat_of_nonneg wrap_succ wrap_m1 wrap_nat succ_m1 cast0 succ_pos' succ_ne' succ_bne' ge_iff_le gt_iff_lt if_true if_false
attribute [local go_sem] slt_r slt_I slt_p ty_rd ty_ev ty_evs
theorem ltBut_fn (a b : List Pg) (page : Int) (ha : a.length < 4611686018427387904) (hab : a.length = b.length) (hv : ∀ p ∈ a, p.vals.length < 4611686018427387904) (h : ∀ k : Nat, k < a.length → (k : Int) ≠ page → at' a (k : Int) = at' b (k : Int)) : Fn1 Tryz.prog 20 [pgs a, pgs b, I page] (Bo true) := by
  have hl0 : ((a.length : Int) != (b.length : Int)) = false := by rw [hab]; simp
  refine fn1_of Tryz.func20 rfl rfl ?_
  simp -implicitDefEqProofs only [go_sem, Tryz.f20, hl0]
  clear hl0
  refine cp_loop (fun i : Nat => ⟨(pgs a :: pgs b :: I page :: .any :: .any :: .any :: Bo false :: I (i : Int) :: .any :: .any :: .any :: .any :: .any :: .any :: .any :: .any :: .any :: .any :: .any :: .any :: .any :: .any :: .any :: .any :: .any :: .any :: .any :: .any :: .any :: .any :: .any :: .any :: .any :: .any :: []), [], []⟩) (fun i => i ≤ a.length) (fun i => a.length - i) 0 ?_ ?_ ?_
  · exact Nat.zero_le _
  · refine wk_tm ?_; repeat (first | exact WL.nil | (with_reducible refine WL.any _ _ _ ?_) | (with_reducible refine WL.same _ _ _ ?_) | (refine WL.eq _ _ _ _ rfl ?_))
  · rintro i hi
    have hb : i < 4611686018427387904 := by omega
    by_cases hil : i < a.length
    · have hil' : (i : Int) < (a.length : Int) := by omega
      have hib : i < b.length := by omega
      rcases hp : ((i : Int) != page) with _ | _
      · simp -implicitDefEqProofs only [go_sem, hil']
        (repeat' (first | ((with_reducible first | refine gon ?_ ?_ | refine gos ?_ ?_ | refine cdn ?_ ?_ | refine cds ?_ ?_ | refine gpn ?_ ?_ | refine gps ?_ ?_) <;> intro h <;> (try simp only [dt, df, gi, gt] at h) <;> try simp -implicitDefEqProofs only [go_sem, *]) | ((with_reducible refine And.intro ?_ ?_); (· first | omega | (simp only [List.length_take]; omega)); try simp -implicitDefEqProofs only [go_sem, *]) | ((with_reducible refine cp_draw (id := 6) 15 mixed ?_ ?_ ?_); (· decide +kernel); (· first | (simp only [List.all_cons, List.all_nil, List.length_cons, List.length_nil, Nat.reduceAdd, Nat.reduceLT, decide_true, Bool.and_true, Bool.and_self]; done) | rfl); try simp -implicitDefEqProofs only [go_sem, *])))
        exact ⟨i + 1, by omega, by omega, by refine wk_tm ?_; repeat (first | exact WL.nil | (with_reducible refine WL.any _ _ _ ?_) | (with_reducible refine WL.same _ _ _ ?_) | (refine WL.eq _ _ _ _ rfl ?_))⟩
      · have e := h i hil (by simpa using hp)
        have c1 := ltPage_fn (at' b (i : Int)) (at' b (i : Int)) (by rw [← e]; exact hv _ (at_mem a i hil))
        rw [sameP_refl] at c1
        clear hab
        simp -implicitDefEqProofs only [go_sem, hil']
        (repeat' (first | ((with_reducible first | refine gon ?_ ?_ | refine gos ?_ ?_ | refine cdn ?_ ?_ | refine cds ?_ ?_ | refine gpn ?_ ?_ | refine gps ?_ ?_) <;> intro h <;> (try simp only [dt, df, gi, gt] at h) <;> try simp -implicitDefEqProofs only [go_sem, *]) | ((with_reducible refine And.intro ?_ ?_); (· first | omega | (simp only [List.length_take]; omega)); try simp -implicitDefEqProofs only [go_sem, *]) | first | ((with_reducible refine cp_draw (id := 6) 15 mixed ?_ ?_ ?_); (· decide +kernel); (· first | (simp only [List.all_cons, List.all_nil, List.length_cons, List.length_nil, Nat.reduceAdd, Nat.reduceLT, decide_true, Bool.and_true, Bool.and_self]; done) | rfl); try simp -implicitDefEqProofs only [go_sem, *]) | ((with_reducible refine pre_enter _ (det_pu (c1) ?_ ?_) ?_ ?_); (· rfl); (· rfl); (· rfl); try simp -implicitDefEqProofs only [go_sem, *])))
        exact ⟨i + 1, by omega, by omega, by refine wk_tm ?_; repeat (first | exact WL.nil | (with_reducible refine WL.any _ _ _ ?_) | (with_reducible refine WL.same _ _ _ ?_) | (refine WL.eq _ _ _ _ rfl ?_))⟩
    · have hil' : ¬ (i : Int) < (a.length : Int) := by omega
      simp -implicitDefEqProofs only [go_sem, hil']
      exact fin_pu rfl rfl
theorem ltPagesSame (a : List Pg) (ha : a.length < 4611686018427387904) (hv : ∀ p ∈ a, p.vals.length < 4611686018427387904) : Fn1 Tryz.prog 21 [pgs a, pgs a] (Bo true) := by
  have := ltPages_fn a a ha hv
  rwa [samePs_iff.2 rfl] at this
theorem sameRs_refl (a : List Rc) : sameRs a a = true := by
  unfold sameRs
  simp [allFrom_iff, sameR_refl]
theorem ltRecsSame (a : List Rc) (ha : a.length < 4611686018427387904) : Fn1 Tryz.prog 22 [recs a, recs a] (Bo true) := by
  have := ltRecs_fn a a ha
  rwa [sameRs_refl] at this
theorem small_of_inv {e : Eng} (h : Inv e) : e.small := by
  have hl := h.len
  have h1 := h.disk.len
  have h2 := h.mem.len
  refine ⟨by omega, by omega, by omega, fun p hp => ?_, fun p hp => ?_⟩
  · have := rgs_vals h.disk p hp
    omega
  · have := rgs_vals h.mem p hp
    omega
theorem Write_law (l : List Int) (hl : l.length < 4611686018427387904) (hb : Byt l) : Fn1 Tryz.prog 3 [bts l] (Bo true) := by
  refine fn1_of Tryz.func3 rfl rfl ?_
  by_cases hlen : (1048576 : Int) < (l.length : Int)
  · simp -implicitDefEqProofs only [go_sem, Tryz.f3, hlen]
    exact fin_pu rfl rfl
  simp -implicitDefEqProofs only [go_sem, Tryz.f3, hlen]
  (repeat' (first | ((with_reducible first | refine gon ?_ ?_ | refine gos ?_ ?_ | refine cdn ?_ ?_ | refine cds ?_ ?_ | refine gpn ?_ ?_ | refine gps ?_ ?_) <;> intro h <;> (try simp only [dt, df, gi, gt] at h) <;> try simp -implicitDefEqProofs only [go_sem, *]) | ((with_reducible refine And.intro ?_ ?_); (· first | omega | (simp only [List.length_take]; omega)); try simp -implicitDefEqProofs only [go_sem, *]) | ((with_reducible refine enter_at ([] : List Nat) (M2 := []) (DrawEngineWrite_c l hl hb) (by decide) ?_ ?_ rfl ?_); (· repeat (first | exact Keeps.nil | (refine Keeps.cons _ _ _ _ _ rfl rfl ?_ ?_; (· first | exact a2_p _ _ | exact a2_1 rfl | exact a2_I _ _)))); (· repeat (first | exact All2.nil | (refine All2.cons _ _ _ _ ?_ ?_; (· first | exact rnT_eX rfl rfl | exact rnT_prim | exact rnT_sl | exact rnT_ref rfl | exact rnT_agg rfl | exact rnT_own rfl | exact rnT_eX5 rfl rfl)))); rintro ⟨e, page⟩ hdr; try simp -implicitDefEqProofs only [go_sem, *])))
  simp only at hdr
  obtain ⟨ea, eb, ec, es, ed⟩ := e
  have hsm := dr_small hdr
  have c1 := EngineWriteI_fn ⟨ea, eb, ec, es, ed⟩ page hsm
  have c2 := EngineWriteS_fn ⟨ea, eb, ec, es, ed⟩ page hsm
  unfold writeE at c1 c2
  by_cases hk : okE ⟨ea, eb, ec, es, ed⟩ = true ∧ ed = false ∧ isIn page 0 4 = true
  rotate_left
  · rw [if_neg hk] at c1 c2
    have c3 := ltSame zeroE zeroE_small
    clear hk
    (repeat' (first | ((with_reducible first | refine gon ?_ ?_ | refine gos ?_ ?_ | refine cdn ?_ ?_ | refine cds ?_ ?_ | refine gpn ?_ ?_ | refine gps ?_ ?_) <;> intro h <;> (try simp only [dt, df, gi, gt] at h) <;> try simp -implicitDefEqProofs only [go_sem, *]) | ((with_reducible refine And.intro ?_ ?_); (· first | omega | (simp only [List.length_take]; omega)); try simp -implicitDefEqProofs only [go_sem, *]) | first | ((with_reducible refine enter_pu (c1) ?_ ?_ ?_); (· rfl); (· rfl); try simp -implicitDefEqProofs only [go_sem, *]) | ((with_reducible refine enter_pu (c2) ?_ ?_ ?_); (· rfl); (· rfl); try simp -implicitDefEqProofs only [go_sem, *]) | ((with_reducible refine enter_pu (c3) ?_ ?_ ?_); (· rfl); (· rfl); try simp -implicitDefEqProofs only [go_sem, *])))
    all_goals exact fin_pu rfl rfl
  · obtain ⟨hok, rfl, hin⟩ := hk
    rw [if_pos ⟨hok, rfl, hin⟩] at c1 c2
    obtain ⟨k, hk, rfl⟩ : ∃ k : Nat, k < 5 ∧ page = (k : Int) := page_nat (by unfold isIn at hin; simpa using hin)
    have hi := inv_of_ok hok
    have hi2 := write_inv hi hk
    have c5 := okI _ (small_of_inv hi2)
    rw [write_ok hok rfl hk] at c5
    have e0 : (⟨ea, eb, ec, es, false⟩ : Eng).write (k : Int) = ⟨ea.set k (at' eb (k : Int)), eb, ec, max es (at' eb (k : Int)).lsn, false⟩ := rfl
    have c3 := ltSame _ (small_of_inv hi2)
    have hsm2 := small_of_inv hi2
    rw [e0] at c1 c2 c3 c5 hsm2
    simp only at c1 c2
    have hd5 : ea.length = 5 := hi.disk.len
    have hm5 : eb.length = 5 := hi.mem.len
    have hset : at' (ea.set k (at' eb (k : Int))) (k : Int) = at' eb (k : Int) := by rw [at_set _ _ _ _ (by omega), if_pos rfl]
    have c6 := ltPage_fn (at' eb (k : Int)) (at' eb (k : Int)) (hsm.mv _ (at_mem eb k (by omega)))
    rw [sameP_refl] at c6
    have c7 := ltBut_fn (ea.set k (at' eb (k : Int))) ea (k : Int) hsm2.disk (List.length_set) hsm2.dv (fun j hj hne => by rw [at_set _ _ _ _ (by omega), if_neg (by omega)])
    have c8 := ltPagesSame eb hsm.mem hsm.mv
    have c9 := ltRecsSame ec hsm.log
    have hk5 : (k : Int) < 5 := by omega
    have e1 : (max es (at' eb (k : Int)).lsn == max es (at' eb (k : Int)).lsn) = true := by simp
    clear hok hin e0 hi hi2
    (repeat' (first | ((with_reducible first | refine gon ?_ ?_ | refine gos ?_ ?_ | refine cdn ?_ ?_ | refine cds ?_ ?_ | refine gpn ?_ ?_ | refine gps ?_ ?_) <;> intro h <;> (try simp only [dt, df, gi, gt] at h) <;> try simp -implicitDefEqProofs only [go_sem, *]) | ((with_reducible refine And.intro ?_ ?_); (· first | omega | (simp only [List.length_take]; omega)); try simp -implicitDefEqProofs only [go_sem, *]) | first | ((with_reducible refine enter_pu (c1) ?_ ?_ ?_); (· rfl); (· rfl); try simp -implicitDefEqProofs only [go_sem, *]) | ((with_reducible refine enter_pu (c2) ?_ ?_ ?_); (· rfl); (· rfl); try simp -implicitDefEqProofs only [go_sem, *]) | ((with_reducible refine enter_pu (c3) ?_ ?_ ?_); (· rfl); (· rfl); try simp -implicitDefEqProofs only [go_sem, *]) | ((with_reducible refine cp_draw (id := 8) 52 mixed ?_ ?_ ?_); (· decide +kernel); (· first | (simp only [List.all_cons, List.all_nil, List.length_cons, List.length_nil, Nat.reduceAdd, Nat.reduceLT, decide_true, Bool.and_true, Bool.and_self]; done) | rfl); try simp -implicitDefEqProofs only [go_sem, *]) | ((with_reducible refine pre_enter _ (det_pu (c5) ?_ ?_) ?_ ?_); (· rfl); (· rfl); (· rfl); try simp -implicitDefEqProofs only [go_sem, *]) | ((with_reducible refine pre_enter _ (det_pu (c6) ?_ ?_) ?_ ?_); (· rfl); (· rfl); (· rfl); try simp -implicitDefEqProofs only [go_sem, *]) | ((with_reducible refine pre_enter _ (det_pu (c7) ?_ ?_) ?_ ?_); (· rfl); (· rfl); (· rfl); try simp -implicitDefEqProofs only [go_sem, *]) | ((with_reducible refine pre_enter _ (det_pu (c8) ?_ ?_) ?_ ?_); (· rfl); (· rfl); (· rfl); try simp -implicitDefEqProofs only [go_sem, *]) | ((with_reducible refine pre_enter _ (det_pu (c9) ?_ ?_) ?_ ?_); (· rfl); (· rfl); (· rfl); try simp -implicitDefEqProofs only [go_sem, *])))
    all_goals exact fin_pu rfl rfl
theorem write_same (ea eb : List Pg) (ec : List Rc) (es : Int) (k : Nat) : (⟨ea.set k (at' eb (k : Int)), eb, ec, max es (at' eb (k : Int)).lsn, false⟩ : Eng).write (k : Int) = ⟨ea.set k (at' eb (k : Int)), eb, ec, max es (at' eb (k : Int)).lsn, false⟩ := by
  unfold Eng.write
  simp only [Int.toNat_natCast, List.set_set]
  rw [Int.max_assoc, Int.max_self]
theorem write_comm (e : Eng) (j k : Nat) : (e.write (k : Int)).write (j : Int) = (e.write (j : Int)).write (k : Int) := by
  unfold Eng.write
  simp only [Int.toNat_natCast]
  congr 1
  · by_cases h : k = j
    · subst h; rfl
    · rw [List.set_comm _ _ h]
  · rw [Int.max_assoc, Int.max_assoc, Int.max_comm (at' e.mem (k : Int)).lsn]
theorem WriteTwice_law (l : List Int) (hl : l.length < 4611686018427387904) (hb : Byt l) (l2 : List Int) (hl2 : l2.length < 4611686018427387904) (hb2 : Byt l2) : Fn1 Tryz.prog 4 [bts l, bts l2] (Bo true) := by
  refine fn1_of Tryz.func4 rfl rfl ?_
  by_cases hlen : (1048576 : Int) < (l.length : Int)
  · simp -implicitDefEqProofs only [go_sem, Tryz.f4, hlen]
    all_goals exact fin_pu rfl rfl
  by_cases hlen2 : (1048576 : Int) < (l2.length : Int)
  · simp -implicitDefEqProofs only [go_sem, Tryz.f4, hlen, hlen2]
    all_goals exact fin_pu rfl rfl
  simp -implicitDefEqProofs only [go_sem, Tryz.f4, hlen, hlen2]
  (repeat' (first | ((with_reducible first | refine gon ?_ ?_ | refine gos ?_ ?_ | refine cdn ?_ ?_ | refine cds ?_ ?_ | refine gpn ?_ ?_ | refine gps ?_ ?_) <;> intro h <;> (try simp only [dt, df, gi, gt] at h) <;> try simp -implicitDefEqProofs only [go_sem, *]) | ((with_reducible refine And.intro ?_ ?_); (· first | omega | (simp only [List.length_take]; omega)); try simp -implicitDefEqProofs only [go_sem, *]) | ((with_reducible refine enter_at ([] : List Nat) (M2 := []) (DrawEngineWrite_c l hl hb) (by decide) ?_ ?_ rfl ?_); (· repeat (first | exact Keeps.nil | (refine Keeps.cons _ _ _ _ _ rfl rfl ?_ ?_; (· first | exact a2_p _ _ | exact a2_1 rfl | exact a2_I _ _)))); (· repeat (first | exact All2.nil | (refine All2.cons _ _ _ _ ?_ ?_; (· first | exact rnT_eX rfl rfl | exact rnT_prim | exact rnT_sl | exact rnT_ref rfl | exact rnT_agg rfl | exact rnT_own rfl | exact rnT_eX5 rfl rfl)))); rintro ⟨e, page⟩ hdr; try simp -implicitDefEqProofs only [go_sem, *])))
  simp only at hdr
  obtain ⟨ea, eb, ec, es, ed⟩ := e
  have hsm := dr_small hdr
  have c1 := EngineWriteI_fn ⟨ea, eb, ec, es, ed⟩ page hsm
  have c2 := EngineWriteS_fn ⟨ea, eb, ec, es, ed⟩ page hsm
  unfold writeE at c1 c2
  by_cases hk : okE ⟨ea, eb, ec, es, ed⟩ = true ∧ ed = false ∧ isIn page 0 4 = true
  rotate_left
  · rw [if_neg hk] at c1 c2
    have c3 := ltSame zeroE zeroE_small
    clear hk
    (repeat' (first | ((with_reducible first | refine gon ?_ ?_ | refine gos ?_ ?_ | refine cdn ?_ ?_ | refine cds ?_ ?_ | refine gpn ?_ ?_ | refine gps ?_ ?_) <;> intro h <;> (try simp only [dt, df, gi, gt] at h) <;> try simp -implicitDefEqProofs only [go_sem, *]) | ((with_reducible refine And.intro ?_ ?_); (· first | omega | (simp only [List.length_take]; omega)); try simp -implicitDefEqProofs only [go_sem, *]) | first | ((with_reducible refine enter_pu (c1) ?_ ?_ ?_); (· rfl); (· rfl); try simp -implicitDefEqProofs only [go_sem, *]) | ((with_reducible refine enter_pu (c2) ?_ ?_ ?_); (· rfl); (· rfl); try simp -implicitDefEqProofs only [go_sem, *]) | ((with_reducible refine enter_pu (c3) ?_ ?_ ?_); (· rfl); (· rfl); try simp -implicitDefEqProofs only [go_sem, *])))
    all_goals exact fin_pu rfl rfl
  · obtain ⟨hok, rfl, hin⟩ := hk
    rw [if_pos ⟨hok, rfl, hin⟩] at c1 c2
    obtain ⟨k, hk, rfl⟩ : ∃ k : Nat, k < 5 ∧ page = (k : Int) := page_nat (by unfold isIn at hin; simpa using hin)
    obtain ⟨j, hj, hjj⟩ : ∃ j : Nat, j < 5 ∧ (l2.length : Int).tmod 5 = (j : Int) := ⟨l2.length % 5, Nat.mod_lt _ (by decide), by rw [Int.tmod_eq_emod_of_nonneg (by omega)]; omega⟩
    have hjn : isIn (j : Int) 0 4 = true := by unfold isIn; simp; omega
    have hi := inv_of_ok hok
    have hi2 := write_inv hi hk
    have hi3 := write_inv hi hj
    have hi4 := write_inv hi2 hj
    have ok2 := write_ok hok rfl hk
    have ok3 := write_ok hok rfl hj
    have c3 := ltSame _ (small_of_inv hi2)
    have c4 := EngineWriteI_fn _ (k : Int) (small_of_inv hi2)
    have c5 := EngineWriteI_fn _ (j : Int) (small_of_inv hi2)
    have c6 := EngineWriteI_fn ⟨ea, eb, ec, es, false⟩ (j : Int) hsm
    have c7 := EngineWriteI_fn _ (k : Int) (small_of_inv hi3)
    have c8 := ltSame _ (small_of_inv hi4)
    unfold writeE at c4 c5 c6 c7
    rw [if_pos ⟨ok2, rfl, hin⟩] at c4
    rw [if_pos ⟨ok2, rfl, hjn⟩] at c5
    rw [if_pos ⟨hok, rfl, hjn⟩] at c6
    rw [if_pos ⟨ok3, rfl, hin⟩] at c7
    rw [← write_comm] at c7
    have e0 : (⟨ea, eb, ec, es, false⟩ : Eng).write (k : Int) = ⟨ea.set k (at' eb (k : Int)), eb, ec, max es (at' eb (k : Int)).lsn, false⟩ := rfl
    have e3 := write_same ea eb ec es k
    obtain ⟨y, hy⟩ : ∃ y, ((⟨ea, eb, ec, es, false⟩ : Eng).write (k : Int)).write (j : Int) = y := ⟨_, rfl⟩
    obtain ⟨z, hz⟩ : ∃ z, (⟨ea, eb, ec, es, false⟩ : Eng).write (j : Int) = z := ⟨_, rfl⟩
    rw [hy] at c5 c7 c8
    rw [hz] at c6 c7
    rw [e0] at c1 c2 c3 c4 c5
    rw [e3] at c4
    obtain ⟨y1, y2, y3, y4, y5⟩ := y
    obtain ⟨w1, w2, w3, w4, w5⟩ := z
    simp only at c1 c2 c4 c5 c6 c7
    clear hok hin hjn hi hi2 hi3 hi4 ok2 ok3 e0 e3 hy hz
    (repeat' (first | ((with_reducible first | refine gon ?_ ?_ | refine gos ?_ ?_ | refine cdn ?_ ?_ | refine cds ?_ ?_ | refine gpn ?_ ?_ | refine gps ?_ ?_) <;> intro h <;> (try simp only [dt, df, gi, gt] at h) <;> try simp -implicitDefEqProofs only [go_sem, *]) | ((with_reducible refine And.intro ?_ ?_); (· first | omega | (simp only [List.length_take]; omega)); try simp -implicitDefEqProofs only [go_sem, *]) | first | ((with_reducible refine enter_pu (c1) ?_ ?_ ?_); (· rfl); (· rfl); try simp -implicitDefEqProofs only [go_sem, *]) | ((with_reducible refine enter_pu (c2) ?_ ?_ ?_); (· rfl); (· rfl); try simp -implicitDefEqProofs only [go_sem, *]) | ((with_reducible refine enter_pu (c3) ?_ ?_ ?_); (· rfl); (· rfl); try simp -implicitDefEqProofs only [go_sem, *]) | ((with_reducible refine enter_pu (c4) ?_ ?_ ?_); (· rfl); (· rfl); try simp -implicitDefEqProofs only [go_sem, *]) | ((with_reducible refine enter_pu (c5) ?_ ?_ ?_); (· rfl); (· rfl); try simp -implicitDefEqProofs only [go_sem, *]) | ((with_reducible refine enter_pu (c6) ?_ ?_ ?_); (· rfl); (· rfl); try simp -implicitDefEqProofs only [go_sem, *]) | ((with_reducible refine enter_pu (c7) ?_ ?_ ?_); (· rfl); (· rfl); try simp -implicitDefEqProofs only [go_sem, *]) | ((with_reducible refine enter_pu (c8) ?_ ?_ ?_); (· rfl); (· rfl); try simp -implicitDefEqProofs only [go_sem, *])))
    all_goals exact fin_pu rfl rfl
end Go.Proofs.YtagjgjhkdihodaaGreat.Am
end
section
set_option linter.unusedVariables false
set_option linter.unusedSimpArgs false
set_option maxRecDepth 100000
set_option maxHeartbeats 8000000
namespace Go.Proofs.YtagjgjhkdihodaaGreat.Am
open Go Go.RowKit Go.Proofs
attribute [local go_sem_proc] Nat.reduceAdd Nat.reduceSub Nat.reduceMul Nat.reduceLT Nat.reduceLeDiff Nat.reduceEqDiff Int.reduceBEq Int.reduceBNe Int.reduceNeg Int.reduceSub Int.reduceLE Int.reduceLT
attribute [local go_sem_proc ↓] reduceIte
attribute [local congr] opsP_congr codeP_congr AWP_congr afterR_congr preP_congr afterPre_congr gPre_congr gOps_congr condP_congr stepE_congr
attribute [local go_sem] ty_int ty_bool ty_str ty_u8 ty_ints ty_bytes ty_page ty_pages ty_lpage ty_lpages ty_rec ty_recs ty_lrec ty_lrecs ty_eng ty_leng
attribute [local go_sem] true_and and_true beq_true' beq_false' toNat_cast Int.natCast_nonneg Bool.not_not Bool.not_true Bool.not_false decide_true decide_false Bool.or_false Bool.false_or Bool.or_true Bool.true_or Bool.and_false Bool.false_and Nat.zero_add Int.toNat_of_nonneg wrap_succ wrap_m1 wrap_nat succ_m1 cast0 succ_pos' succ_ne' succ_bne' ge_iff_le gt_iff_lt if_true if_false
attribute [local go_sem] slt_r slt_I slt_p ty_rd ty_ev ty_evs yieldR_idx'
attribute [local congr] yieldR_congr nc_congr
/-- A drawn region behind which there is one state. -/
theorem cp_oneJ {P : Program} {id : Nat} {ops : Array Oper} {Q : Exit → St → Prop} {st st1 : St} (h : codeP P (.region id ops true) (fun ex s => ex = .normal ∧ s = st1) st) (h2 : Q .normal st1) : codeP P (.region id ops true) Q st := by
  intro ok w0 μ0 Sc μ a w hr
  refine Code.wp_mono ?_ (h ok w0 μ0 Sc μ a w hr)
  rintro ex a' w' ⟨st', μ', ⟨rfl, rfl⟩, hrel⟩
  exact ⟨_, μ', h2, hrel⟩
def dirtTo (e : Eng) : Nat → List Int
  | 0 => []
  | p + 1 => if (at' e.mem (p : Int)).lsn = (at' e.disk (p : Int)).lsn then dirtTo e p else dirtTo e p ++ [(p : Int)]
def dirtE (e : Eng) : List Int := if okE e = true then dirtTo e 5 else []
theorem dirtTo_len (e : Eng) : ∀ p, (dirtTo e p).length ≤ p
  | 0 => Nat.le_refl _
  | p + 1 => by
    have := dirtTo_len e p
    unfold dirtTo
    split
    · omega
    · simp; omega
theorem dirtTo_mem (e : Eng) (x : Int) : ∀ n, x ∈ dirtTo e n ↔ ∃ p : Nat, p < n ∧ x = (p : Int) ∧ (at' e.mem (p : Int)).lsn ≠ (at' e.disk (p : Int)).lsn
  | 0 => by simp [dirtTo]
  | n + 1 => by
    have ih := dirtTo_mem e x n
    unfold dirtTo
    split
    · rename_i h
      rw [ih]
      constructor
      · rintro ⟨p, h1, h2, h3⟩
        exact ⟨p, by omega, h2, h3⟩
      · rintro ⟨p, h1, h2, h3⟩
        refine ⟨p, ?_, h2, h3⟩
        rcases Nat.lt_succ_iff_lt_or_eq.1 h1 with h1 | rfl
        · exact h1
        · exact absurd h h3
    · rename_i h
      rw [List.mem_append, ih, List.mem_singleton]
      constructor
      · rintro (⟨p, h1, h2, h3⟩ | h2)
        · exact ⟨p, by omega, h2, h3⟩
        · exact ⟨n, by omega, h2, h⟩
      · rintro ⟨p, h1, h2, h3⟩
        rcases Nat.lt_succ_iff_lt_or_eq.1 h1 with h1 | rfl
        · exact .inl ⟨p, h1, h2, h3⟩
        · exact .inr h2
theorem DirtyS_fn (e : Eng) (h : e.small) : Fn1 Tryz.prog 27 [eA e] (ints (dirtE e)) := by
  have c1 := okS e h
  refine fn1_of Tryz.func27 rfl rfl ?_
  unfold dirtE
  rcases hok : okE e with _ | _
  · rw [hok] at c1
    simp -implicitDefEqProofs only [go_sem, Tryz.f27]
    (repeat' (first | ((with_reducible first | refine gon ?_ ?_ | refine gos ?_ ?_ | refine cdn ?_ ?_ | refine cds ?_ ?_ | refine gpn ?_ ?_ | refine gps ?_ ?_) <;> intro h <;> (try simp only [dt, df, gi, gt] at h) <;> try simp -implicitDefEqProofs only [go_sem, *]) | ((with_reducible refine And.intro ?_ ?_); (· first | omega | (simp only [List.length_take]; omega)); try simp -implicitDefEqProofs only [go_sem, *]) | ((with_reducible refine enter_pu (c1) ?_ ?_ ?_); (· rfl); (· rfl); try simp -implicitDefEqProofs only [go_sem, *])))
    exact fin_1 (argT0 (arg0_I (l := []) rfl rfl))
  · rw [hok] at c1
    rw [if_pos rfl]
    have hi := inv_of_ok hok
    have hd5 : 5 ≤ e.disk.length := by have := hi.disk.len; omega
    have hm5 : 5 ≤ e.mem.length := by have := hi.mem.len; omega
    clear hok hi
    simp -implicitDefEqProofs only [go_sem, Tryz.f27]
    (repeat' (first | ((with_reducible first | refine gon ?_ ?_ | refine gos ?_ ?_ | refine cdn ?_ ?_ | refine cds ?_ ?_ | refine gpn ?_ ?_ | refine gps ?_ ?_) <;> intro h <;> (try simp only [dt, df, gi, gt] at h) <;> try simp -implicitDefEqProofs only [go_sem, *]) | ((with_reducible refine And.intro ?_ ?_); (· first | omega | (simp only [List.length_take]; omega)); try simp -implicitDefEqProofs only [go_sem, *]) | ((with_reducible refine enter_pu (c1) ?_ ?_ ?_); (· rfl); (· rfl); try simp -implicitDefEqProofs only [go_sem, *])))
    clear c1
    refine cp_loop (fun p : Nat => ⟨(.any :: .ref 0 5 0 0 :: nilS :: .own 1 1 0 (dirtTo e p).length :: I (p : Int) :: .any :: .any :: .any :: .any :: .any :: .any :: .any :: .any :: .any :: .any :: .any :: .any :: .any :: .any :: .any :: .any :: .any :: .any :: .any :: .any :: .any :: .any :: .any :: .any :: .any :: .any :: .any :: []), [some ⟨5, [eA e]⟩, some ⟨1, (dirtTo e p).map I⟩], [1]⟩) (fun p => p ≤ 5) (fun p => 5 - p) 0 ?_ ?_ ?_
    · simp
    · refine WkN.trans (WkN.trans (wk_tm ?_) (wk_trunc (S := [some ⟨5, _⟩, some ⟨1, _⟩]) (Nat.le_refl _) rfl (by first | rfl | (simp only [sltB, List.all_cons, List.all_nil, slt_p, slt_I, slt_r, Bool.and_true]; done) | (simp only [sltB, List.all_cons, List.all_nil, slt_p, slt_I, slt_r, Bool.and_true]; rfl)))) (wk_mv (by simp)); repeat (first | exact WL.nil | (with_reducible refine WL.any _ _ _ ?_) | (with_reducible refine WL.same _ _ _ ?_) | (refine WL.eq _ _ _ _ rfl ?_))
    · rintro p hp
      have hb : p < 4611686018427387904 := by omega
      have hlen := dirtTo_len e p
      by_cases hpl : p < 5
      · have hl1 : (p : Int) < 5 := by omega
        rcases hne : (at' e.mem (p : Int)).lsn != (at' e.disk (p : Int)).lsn with _ | _
        · have e1 : dirtTo e (p + 1) = dirtTo e p := if_pos (by simpa using hne)
          simp -implicitDefEqProofs only [go_sem, hl1]
          (repeat' (first | ((with_reducible first | refine gon ?_ ?_ | refine gos ?_ ?_ | refine cdn ?_ ?_ | refine cds ?_ ?_ | refine gpn ?_ ?_ | refine gps ?_ ?_) <;> intro h <;> (try simp only [dt, df, gi, gt] at h) <;> try simp -implicitDefEqProofs only [go_sem, *]) | ((with_reducible refine And.intro ?_ ?_); (· first | omega | (simp only [List.length_take]; omega)); try simp -implicitDefEqProofs only [go_sem, *]) | ((with_reducible refine cp_draw (id := 7) 13 mixed ?_ ?_ ?_); (· decide +kernel); (· first | (simp only [List.all_cons, List.all_nil, List.length_cons, List.length_nil, Nat.reduceAdd, Nat.reduceLT, decide_true, Bool.and_true, Bool.and_self]; done) | rfl); try simp -implicitDefEqProofs only [go_sem, *])))
          refine ⟨p + 1, by omega, by omega, ?_⟩
          simp only [e1]
          refine wk_tm ?_; repeat (first | exact WL.nil | (with_reducible refine WL.any _ _ _ ?_) | (with_reducible refine WL.same _ _ _ ?_) | (refine WL.eq _ _ _ _ rfl ?_))
        · have e1 : dirtTo e (p + 1) = dirtTo e p ++ [(p : Int)] := if_neg (by simpa using hne)
          simp -implicitDefEqProofs only [go_sem, hl1]
          (repeat' (first | ((with_reducible first | refine gon ?_ ?_ | refine gos ?_ ?_ | refine cdn ?_ ?_ | refine cds ?_ ?_ | refine gpn ?_ ?_ | refine gps ?_ ?_) <;> intro h <;> (try simp only [dt, df, gi, gt] at h) <;> try simp -implicitDefEqProofs only [go_sem, *]) | ((with_reducible refine And.intro ?_ ?_); (· first | omega | (simp only [List.length_take]; omega)); try simp -implicitDefEqProofs only [go_sem, *]) | ((with_reducible refine cp_draw (id := 7) 13 mixed ?_ ?_ ?_); (· decide +kernel); (· first | (simp only [List.all_cons, List.all_nil, List.length_cons, List.length_nil, Nat.reduceAdd, Nat.reduceLT, decide_true, Bool.and_true, Bool.and_self]; done) | rfl); try simp -implicitDefEqProofs only [go_sem, *])))
          refine ⟨p + 1, by omega, by omega, ?_⟩
          simp only [e1, List.length_append, List.length_cons, List.length_nil]
          refine WkN.trans (WkN.trans (wk_tm ?_) (wk_trunc (S := [some ⟨5, _⟩, some ⟨1, _⟩]) (Nat.le_refl _) rfl (by first | rfl | (simp only [sltB, List.all_cons, List.all_nil, slt_p, slt_I, slt_r, Bool.and_true]; done) | (simp only [sltB, List.all_cons, List.all_nil, slt_p, slt_I, slt_r, Bool.and_true]; rfl)))) (wk_mv (by simp)); repeat (first | exact WL.nil | (with_reducible refine WL.any _ _ _ ?_) | (with_reducible refine WL.same _ _ _ ?_) | (refine WL.eq _ _ _ _ rfl ?_))
      · have hl1 : ¬ (p : Int) < 5 := by omega
        have e5 : p = 5 := by omega
        subst e5
        simp -implicitDefEqProofs only [go_sem, hl1]
        exact fin_1 (argT0 (arg0_I rfl rfl))
theorem DirtyI_fn (e : Eng) (h : e.small) : Fn1 Tryz.prog 25 [eA e] (ints (dirtE e)) := by
  have c1 := okI e h
  refine fn1_of Tryz.func25 rfl rfl ?_
  unfold dirtE
  rcases hok : okE e with _ | _
  · rw [hok] at c1
    simp -implicitDefEqProofs only [go_sem, Tryz.f25]
    (repeat' (first | ((with_reducible first | refine gon ?_ ?_ | refine gos ?_ ?_ | refine cdn ?_ ?_ | refine cds ?_ ?_ | refine gpn ?_ ?_ | refine gps ?_ ?_) <;> intro h <;> (try simp only [dt, df, gi, gt] at h) <;> try simp -implicitDefEqProofs only [go_sem, *]) | ((with_reducible refine And.intro ?_ ?_); (· first | omega | (simp only [List.length_take]; omega)); try simp -implicitDefEqProofs only [go_sem, *]) | ((with_reducible refine enter_pu (c1) ?_ ?_ ?_); (· rfl); (· rfl); try simp -implicitDefEqProofs only [go_sem, *])))
    exact fin_drawn (.of _ _ (.of _ _ (.nil 1 (by decide)))) ⟨⟨rfl, rfl⟩, rfl⟩
  · rw [hok] at c1
    rw [if_pos rfl]
    have hi := inv_of_ok hok
    have hd5 : 5 ≤ e.disk.length := by have := hi.disk.len; omega
    have hm5 : 5 ≤ e.mem.length ∧ e.mem.length ≤ 5 := by have := hi.mem.len; omega
    clear hok hi
    simp -implicitDefEqProofs only [go_sem, Tryz.f25]
    (repeat' (first | ((with_reducible first | refine gon ?_ ?_ | refine gos ?_ ?_ | refine cdn ?_ ?_ | refine cds ?_ ?_ | refine gpn ?_ ?_ | refine gps ?_ ?_) <;> intro h <;> (try simp only [dt, df, gi, gt] at h) <;> try simp -implicitDefEqProofs only [go_sem, *]) | ((with_reducible refine And.intro ?_ ?_); (· first | omega | (simp only [List.length_take]; omega)); try simp -implicitDefEqProofs only [go_sem, *]) | ((with_reducible refine enter_pu (c1) ?_ ?_ ?_); (· rfl); (· rfl); try simp -implicitDefEqProofs only [go_sem, *])))
    clear c1
    refine cp_loop (fun p : Nat => ⟨(.any :: .ref 0 5 0 0 :: nilS :: .own 1 1 0 (dirtTo e p).length :: .any :: .any :: .any :: .any :: .any :: .any :: pgs e.mem :: I (e.mem.length : Int) :: I (p : Int) :: .any :: .any :: .any :: .any :: .any :: .any :: .any :: .any :: .any :: .any :: .any :: .any :: .any :: .any :: .any :: .any :: .any :: .any :: .any :: []), [some ⟨5, [eA e]⟩, some ⟨1, (dirtTo e p).map I⟩], [1]⟩) (fun p => p ≤ 5) (fun p => 5 - p) 0 ?_ ?_ ?_
    · simp
    · refine WkN.trans (wk_nil 3 1 (by omega) rfl) (WkN.trans (wk_tm ?_) (wk_mv (by simp))); simp only [List.set_cons_succ, List.set_cons_zero, List.length_nil, List.length_cons]; repeat (first | exact WL.nil | (with_reducible refine WL.any _ _ _ ?_) | (with_reducible refine WL.same _ _ _ ?_) | (refine WL.eq _ _ _ _ rfl ?_))
    · rintro p hp
      have hb : p < 4611686018427387904 := by omega
      have hlen := dirtTo_len e p
      by_cases hpl : p < 5
      · have hl1 : (p : Int) < (e.mem.length : Int) := by omega
        rcases hne : (at' e.mem (p : Int)).lsn != (at' e.disk (p : Int)).lsn with _ | _
        · have e1 : dirtTo e (p + 1) = dirtTo e p := if_pos (by simpa using hne)
          simp -implicitDefEqProofs only [go_sem, hl1, hb]
          (repeat' (first | ((with_reducible first | refine gon ?_ ?_ | refine gos ?_ ?_ | refine cdn ?_ ?_ | refine cds ?_ ?_ | refine gpn ?_ ?_ | refine gps ?_ ?_) <;> intro h <;> (try simp only [dt, df, gi, gt] at h) <;> try simp -implicitDefEqProofs only [go_sem, *]) | ((with_reducible refine And.intro ?_ ?_); (· first | omega | (simp only [List.length_take]; omega)); try simp -implicitDefEqProofs only [go_sem, *]) | ((with_reducible refine cp_draw (id := 7) 9 mixed ?_ ?_ ?_); (· decide +kernel); (· first | (simp only [List.all_cons, List.all_nil, List.length_cons, List.length_nil, Nat.reduceAdd, Nat.reduceLT, decide_true, Bool.and_true, Bool.and_self]; done) | rfl); try simp -implicitDefEqProofs only [go_sem, *])))
          refine ⟨p + 1, by omega, by omega, ?_⟩
          simp only [e1]
          refine WkN.trans (wk_tm ?_) (wk_trunc (S := [some ⟨5, _⟩, some ⟨1, _⟩]) (Nat.le_refl _) rfl (by first | rfl | (simp only [sltB, List.all_cons, List.all_nil, slt_p, slt_I, slt_r, Bool.and_true]; done) | (simp only [sltB, List.all_cons, List.all_nil, slt_p, slt_I, slt_r, Bool.and_true]; rfl))); repeat (first | exact WL.nil | (with_reducible refine WL.any _ _ _ ?_) | (with_reducible refine WL.same _ _ _ ?_) | (refine WL.eq _ _ _ _ rfl ?_))
        · have e1 : dirtTo e (p + 1) = dirtTo e p ++ [(p : Int)] := if_neg (by simpa using hne)
          simp -implicitDefEqProofs only [go_sem, hl1, hb]
          (repeat' (first | ((with_reducible first | refine gon ?_ ?_ | refine gos ?_ ?_ | refine cdn ?_ ?_ | refine cds ?_ ?_ | refine gpn ?_ ?_ | refine gps ?_ ?_) <;> intro h <;> (try simp only [dt, df, gi, gt] at h) <;> try simp -implicitDefEqProofs only [go_sem, *]) | ((with_reducible refine And.intro ?_ ?_); (· first | omega | (simp only [List.length_take]; omega)); try simp -implicitDefEqProofs only [go_sem, *]) | ((with_reducible refine cp_draw (id := 7) 9 mixed ?_ ?_ ?_); (· decide +kernel); (· first | (simp only [List.all_cons, List.all_nil, List.length_cons, List.length_nil, Nat.reduceAdd, Nat.reduceLT, decide_true, Bool.and_true, Bool.and_self]; done) | rfl); try simp -implicitDefEqProofs only [go_sem, *])))
          refine ⟨p + 1, by omega, by omega, ?_⟩
          simp only [e1, List.length_append, List.length_cons, List.length_nil]
          refine WkN.trans (WkN.trans (wk_tm ?_) (wk_trunc (S := [some ⟨5, _⟩, some ⟨1, _⟩]) (Nat.le_refl _) rfl (by first | rfl | (simp only [sltB, List.all_cons, List.all_nil, slt_p, slt_I, slt_r, Bool.and_true]; done) | (simp only [sltB, List.all_cons, List.all_nil, slt_p, slt_I, slt_r, Bool.and_true]; rfl)))) (wk_mv (by simp)); repeat (first | exact WL.nil | (with_reducible refine WL.any _ _ _ ?_) | (with_reducible refine WL.same _ _ _ ?_) | (refine WL.eq _ _ _ _ rfl ?_))
      · have hl1 : ¬ (p : Int) < (e.mem.length : Int) := by omega
        have e5 : p = 5 := by omega
        subst e5
        simp -implicitDefEqProofs only [go_sem, hl1]
        exact fin_1 (argT0 (arg0_I rfl rfl))
theorem dirt_among {e : Eng} (hok : okE e = true) {p : Nat} (hp : p < 5) : amongB (dirtE e) (p : Int) = ((at' e.mem (p : Int)).lsn != (at' e.disk (p : Int)).lsn) := by
  rw [Bool.eq_iff_iff, among_iff]
  unfold dirtE
  rw [if_pos hok, dirtTo_mem]
  constructor
  · rintro ⟨q, h1, h2, h3⟩
    obtain rfl : p = q := by omega
    simpa using h3
  · intro h
    exact ⟨p, hp, rfl, by simpa using h⟩
theorem dirtE_len (e : Eng) : (dirtE e).length ≤ 5 := by
  unfold dirtE
  split
  · exact dirtTo_len e 5
  · exact Nat.zero_le _
theorem dirtE_nil {e : Eng} (h : ∀ p : Nat, p < 5 → (at' e.mem (p : Int)).lsn = (at' e.disk (p : Int)).lsn) : dirtE e = [] := by
  unfold dirtE
  split
  · rcases hx : dirtTo e 5 with _ | ⟨x, l⟩
    · rfl
    · have : x ∈ dirtTo e 5 := by rw [hx]; simp
      obtain ⟨p, h1, _, h3⟩ := (dirtTo_mem e x 5).1 this
      exact absurd (h p h1) h3
  · rfl
theorem redo_same {ps : List Pg} {l : List Rc} (hs : Sz ps) (hw : Wf l) {p : Nat} (hp : p < 5) (hb : ∀ q : Nat, q < 5 → (at' ps (q : Int)).lsn ≤ l.length) : ∀ n, n ≤ l.length → (at' (redoTo ps l n) (p : Int)).lsn = (at' ps (p : Int)).lsn → at' (redoTo ps l n) (p : Int) = at' ps (p : Int)
  | 0, _, _ => rfl
  | n + 1, hn, h => by
    have hm := redo_lsn hs hw p hp n (by omega)
    have hd : (doP (at' (redoTo ps l n) (p : Int)) (at' l (n : Int)) ((n + 1 : Nat) : Int)).lsn = ((n + 1 : Nat) : Int) := by unfold doP; split <;> rfl
    rw [redoTo, redo1_at (redoTo_sz hs hw n (by omega)).len (hw.rok n (by omega)) n p hp] at h ⊢
    split at h
    · rename_i hc
      rw [hd] at h
      omega
    · rename_i hc
      rw [if_neg hc]
      exact redo_same hs hw hp hb n (by omega) h
/-- A page that is not dirty is on the disk as it is in memory. -/
theorem clean_eq {e : Eng} (h : okE e = true) (hd : e.down = false) {p : Nat} (hp : p < 5) (hl : (at' e.mem (p : Int)).lsn = (at' e.disk (p : Int)).lsn) : at' e.disk (p : Int) = at' e.mem (p : Int) := by
  have ho := okE_iff.1 h
  have hv := inv_of_ok h
  obtain ⟨_, h2, _⟩ := pgB_iff.1 (ho.pg p hp)
  rw [if_neg (by rw [hd]; decide)] at h2
  unfold memB at h2
  split at h2
  · unfold freshB at h2
    simp only [Bool.and_eq_true, Bool.or_eq_true, beq_iff_eq, decide_eq_true_eq] at h2
    rcases h2.2.2 with h3 | h3
    · omega
    · exact (sameP_iff.1 h3).symm
  · have e1 := sameP_iff.1 h2
    rw [e1] at hl ⊢
    unfold Eng.redo at hl ⊢
    exact (redo_same hv.disk.sz hv.wf hp (fun q hq => by have := hv.dl q hq; have := hv.safe; omega) _ (Nat.le_refl _) hl).symm
def wrTo (e : Eng) (l : List Int) : Nat → Eng
  | 0 => e
  | i + 1 => (wrTo e l i).write (at' l (i : Int))
structure WrOk (e : Eng) (l : List Int) (i : Nat) (x : Eng) : Prop where
  ok : okE x = true
  down : x.down = false
  mem : x.mem = e.mem
  disk : ∀ p : Nat, p < 5 → at' x.disk (p : Int) = at' e.mem (p : Int) ∨ (at' x.disk (p : Int) = at' e.disk (p : Int) ∧ ∀ j : Nat, j < i → at' l (j : Int) ≠ (p : Int))
theorem wrTo_ok {e : Eng} (h : okE e = true) (hd : e.down = false) {l : List Int} (hl : ∀ i : Nat, i < l.length → ∃ p : Nat, p < 5 ∧ at' l (i : Int) = (p : Int)) : ∀ i, i ≤ l.length → WrOk e l i (wrTo e l i)
  | 0, _ => ⟨h, hd, rfl, fun p _ => .inr ⟨rfl, fun j hj => by omega⟩⟩
  | i + 1, hi => by
    have ih := wrTo_ok h hd hl i (by omega)
    obtain ⟨p, hp, e1⟩ := hl i (by omega)
    unfold wrTo
    rw [e1]
    refine ⟨write_ok ih.ok ih.down hp, ih.down, ih.mem, fun q hq => ?_⟩
    have h5 : (wrTo e l i).disk.length = 5 := (inv_of_ok ih.ok).disk.len
    have e2 : at' ((wrTo e l i).write (p : Int)).disk (q : Int) = if q = p then at' (wrTo e l i).mem (p : Int) else at' (wrTo e l i).disk (q : Int) := by
      show at' (List.set _ _ _) _ = _
      rw [Int.toNat_natCast, at_set _ _ _ _ (by omega)]
    rw [e2]
    by_cases hqp : q = p
    · subst hqp
      rw [if_pos rfl, ih.mem]
      exact .inl rfl
    · rw [if_neg hqp]
      rcases ih.disk q hq with h1 | ⟨h1, h2⟩
      · exact .inl h1
      · refine .inr ⟨h1, fun j hj => ?_⟩
        rcases Nat.lt_succ_iff_lt_or_eq.1 hj with hj | rfl
        · exact h2 j hj
        · rw [e1]; omega
theorem ltIntsSame (a : List Int) (ha : a.length < 4611686018427387904) : Fn1 Tryz.prog 26 [ints a, ints a] (Bo true) := by
  have := ltInts_fn a a ha
  rwa [sameInts_refl] at this
theorem Dirty_law (l : List Int) (hl : l.length < 4611686018427387904) (hb : Byt l) : Fn1 Tryz.prog 5 [bts l] (Bo true) := by
  refine fn1_of Tryz.func5 rfl rfl ?_
  by_cases hlen : (1048576 : Int) < (l.length : Int)
  · simp -implicitDefEqProofs only [go_sem, Tryz.f5, hlen]
    exact fin_pu rfl rfl
  simp -implicitDefEqProofs only [go_sem, Tryz.f5, hlen]
  (repeat' (first | ((with_reducible first | refine gon ?_ ?_ | refine gos ?_ ?_ | refine cdn ?_ ?_ | refine cds ?_ ?_ | refine gpn ?_ ?_ | refine gps ?_ ?_) <;> intro h <;> (try simp only [dt, df, gi, gt] at h) <;> try simp -implicitDefEqProofs only [go_sem, *]) | ((with_reducible refine And.intro ?_ ?_); (· first | omega | (simp only [List.length_take]; omega)); try simp -implicitDefEqProofs only [go_sem, *]) | ((with_reducible refine enter_at ([] : List Nat) (M2 := []) (DrawEngineDirty_c l hl hb) (by decide) ?_ ?_ rfl ?_); (· repeat (first | exact Keeps.nil | (refine Keeps.cons _ _ _ _ _ rfl rfl ?_ ?_; (· first | exact a2_p _ _ | exact a2_1 rfl | exact a2_I _ _)))); (· repeat (first | exact All2.nil | (refine All2.cons _ _ _ _ ?_ ?_; (· first | exact rnT_eX rfl rfl | exact rnT_prim | exact rnT_sl | exact rnT_ref rfl | exact rnT_agg rfl | exact rnT_own rfl | exact rnT_eX5 rfl rfl)))); rintro e hdr; try simp -implicitDefEqProofs only [go_sem, *])))
  obtain ⟨ea, eb, ec, es, ed⟩ := e
  have hsm := dr_small hdr
  have c1 := DirtyI_fn ⟨ea, eb, ec, es, ed⟩ hsm
  have c2 := DirtyS_fn ⟨ea, eb, ec, es, ed⟩ hsm
  have c3 := okS ⟨ea, eb, ec, es, ed⟩ hsm
  have hdl := dirtE_len ⟨ea, eb, ec, es, ed⟩
  have c4 := ltIntsSame (dirtE ⟨ea, eb, ec, es, ed⟩) (by omega)
  obtain ⟨ok, hok⟩ : ∃ ok, okE ⟨ea, eb, ec, es, ed⟩ = ok := ⟨_, rfl⟩
  rw [hok] at c3
  rcases ok with _ | _
  · (repeat' (first | ((with_reducible first | refine gon ?_ ?_ | refine gos ?_ ?_ | refine cdn ?_ ?_ | refine cds ?_ ?_ | refine gpn ?_ ?_ | refine gps ?_ ?_) <;> intro h <;> (try simp only [dt, df, gi, gt] at h) <;> try simp -implicitDefEqProofs only [go_sem, *]) | ((with_reducible refine And.intro ?_ ?_); (· first | omega | (simp only [List.length_take]; omega)); try simp -implicitDefEqProofs only [go_sem, *]) | first | ((with_reducible refine enter_pu (c1) ?_ ?_ ?_); (· rfl); (· rfl); try simp -implicitDefEqProofs only [go_sem, *]) | ((with_reducible refine enter_pu (c2) ?_ ?_ ?_); (· rfl); (· rfl); try simp -implicitDefEqProofs only [go_sem, *]) | ((with_reducible refine enter_pu (c3) ?_ ?_ ?_); (· rfl); (· rfl); try simp -implicitDefEqProofs only [go_sem, *]) | ((with_reducible refine enter_pu (c4) ?_ ?_ ?_); (· rfl); (· rfl); try simp -implicitDefEqProofs only [go_sem, *])))
    all_goals exact fin_pu rfl rfl
  have hi := inv_of_ok hok
  have ham : ∀ p : Nat, p < 5 → amongB (dirtE ⟨ea, eb, ec, es, ed⟩) (p : Int) = ((at' eb (p : Int)).lsn != (at' ea (p : Int)).lsn) := fun p hp => dirt_among hok hp
  have hmm : ∀ x, x ∈ dirtE ⟨ea, eb, ec, es, ed⟩ ↔ ∃ p : Nat, p < 5 ∧ x = (p : Int) ∧ (at' eb (p : Int)).lsn ≠ (at' ea (p : Int)).lsn := fun x => by
    unfold dirtE
    rw [if_pos hok]
    exact dirtTo_mem ⟨ea, eb, ec, es, ed⟩ x 5
  have hdn : ed = true → dirtE ⟨ea, eb, ec, es, ed⟩ = [] := fun hd => dirtE_nil fun p hp => by
    have := ((pgB_iff.1 ((okE_iff.1 hok).pg p hp)).2.1)
    rw [if_pos hd] at this
    rw [sameP_iff.1 this]
  have hcl : ed = false → ∀ p : Nat, p < 5 → (at' eb (p : Int)).lsn = (at' ea (p : Int)).lsn → at' ea (p : Int) = at' eb (p : Int) := fun hd p hp h => clean_eq hok hd hp h
  (repeat' (first | ((with_reducible first | refine gon ?_ ?_ | refine gos ?_ ?_ | refine cdn ?_ ?_ | refine cds ?_ ?_ | refine gpn ?_ ?_ | refine gps ?_ ?_) <;> intro h <;> (try simp only [dt, df, gi, gt] at h) <;> try simp -implicitDefEqProofs only [go_sem, *]) | ((with_reducible refine And.intro ?_ ?_); (· first | omega | (simp only [List.length_take]; omega)); try simp -implicitDefEqProofs only [go_sem, *]) | first | ((with_reducible refine enter_pu (c1) ?_ ?_ ?_); (· rfl); (· rfl); try simp -implicitDefEqProofs only [go_sem, *]) | ((with_reducible refine enter_pu (c2) ?_ ?_ ?_); (· rfl); (· rfl); try simp -implicitDefEqProofs only [go_sem, *]) | ((with_reducible refine enter_pu (c3) ?_ ?_ ?_); (· rfl); (· rfl); try simp -implicitDefEqProofs only [go_sem, *]) | ((with_reducible refine enter_pu (c4) ?_ ?_ ?_); (· rfl); (· rfl); try simp -implicitDefEqProofs only [go_sem, *])))
  clear c1 c2 c3 c4
  obtain ⟨D, hD⟩ : ∃ D, dirtE ⟨ea, eb, ec, es, ed⟩ = D := ⟨_, rfl⟩
  rw [hD] at hdl
  rw [hD] at hdn
  simp only [hD] at ham hmm
  have hd5 : 5 ≤ ea.length := by have h : ea.length = 5 := hi.disk.len; omega
  have hm5 : 5 ≤ eb.length := by have h : eb.length = 5 := hi.mem.len; omega
  refine cp_loop (fun p : Nat => ⟨(bts l :: .any :: Bo false :: .ref 0 5 0 0 :: ints D :: I (p : Int) :: .any :: .any :: .any :: .any :: .any :: .any :: .any :: .any :: .any :: .any :: .any :: .any :: .any :: .any :: .any :: .any :: .any :: .any :: .any :: .any :: .any :: .any :: .any :: .any :: .any :: .any :: .any :: .any :: .any :: .any :: .any :: .any :: .any :: .any :: .any :: .any :: .any :: .any :: .any :: .any :: .any :: .any :: .any :: .any :: .any :: .any :: .any :: .any :: .any :: .any :: .any :: .any :: .any :: .any :: .any :: .any :: .any :: .any :: .any :: .any :: .any :: .any :: .any :: .any :: .any :: .any :: .any :: .any :: .any :: .any :: .any :: .any :: .any :: .any :: .any :: .any :: .any :: .any :: .any :: .any :: .any :: []), [some ⟨5, [eA ⟨ea, eb, ec, es, ed⟩]⟩], []⟩) (fun p => p ≤ 5) (fun p => 5 - p) 0 ?_ ?_ ?_
  · simp
  · rw [hD]
    refine wk_tm ?_; repeat (first | exact WL.nil | (with_reducible refine WL.any _ _ _ ?_) | (with_reducible refine WL.same _ _ _ ?_) | (refine WL.eq _ _ _ _ rfl ?_))
  · rintro p hp
    have hpb : p < 4611686018427387904 := by omega
    by_cases hpl : p < 5
    · have hl1 : (p : Int) < 5 := by omega
      have c5 := ltAmong_fn D (p : Int) (by omega)
      rw [ham p hpl] at c5
      have e1 : (((at' eb (p : Int)).lsn != (at' ea (p : Int)).lsn) == ((at' eb (p : Int)).lsn != (at' ea (p : Int)).lsn)) = true := by simp
      clear ham hmm hdn hcl hD hok hi
      simp -implicitDefEqProofs only [go_sem, hl1]
      (repeat' (first | ((with_reducible first | refine gon ?_ ?_ | refine gos ?_ ?_ | refine cdn ?_ ?_ | refine cds ?_ ?_ | refine gpn ?_ ?_ | refine gps ?_ ?_) <;> intro h <;> (try simp only [dt, df, gi, gt] at h) <;> try simp -implicitDefEqProofs only [go_sem, *]) | ((with_reducible refine And.intro ?_ ?_); (· first | omega | (simp only [List.length_take]; omega)); try simp -implicitDefEqProofs only [go_sem, *]) | first | ((with_reducible refine cp_draw (id := 10) 17 mixed ?_ ?_ ?_); (· decide +kernel); (· first | (simp only [List.all_cons, List.all_nil, List.length_cons, List.length_nil, Nat.reduceAdd, Nat.reduceLT, decide_true, Bool.and_true, Bool.and_self]; done) | rfl); try simp -implicitDefEqProofs only [go_sem, *]) | ((with_reducible refine pre_enter _ (det_pu (c5) ?_ ?_) ?_ ?_); (· rfl); (· rfl); (· rfl); try simp -implicitDefEqProofs only [go_sem, *])))
      all_goals exact ⟨p + 1, by omega, by omega, by refine wk_tm ?_; repeat (first | exact WL.nil | (with_reducible refine WL.any _ _ _ ?_) | (with_reducible refine WL.same _ _ _ ?_) | (refine WL.eq _ _ _ _ rfl ?_))⟩
    · have hl1 : ¬ (p : Int) < 5 := by omega
      clear hpl hp hpb hD
      rcases ed with _ | _
      rotate_left
      · have e0 : D.length = 0 := by rw [hdn rfl]; rfl
        clear ham hmm hdn hcl hok hi
        simp -implicitDefEqProofs only [go_sem, hl1, e0]
        (repeat' (first | ((with_reducible first | refine gon ?_ ?_ | refine gos ?_ ?_ | refine cdn ?_ ?_ | refine cds ?_ ?_ | refine gpn ?_ ?_ | refine gps ?_ ?_) <;> intro h <;> (try simp only [dt, df, gi, gt] at h) <;> try simp -implicitDefEqProofs only [go_sem, *]) | ((with_reducible refine And.intro ?_ ?_); (· first | omega | (simp only [List.length_take]; omega)); try simp -implicitDefEqProofs only [go_sem, *]) | fail))
        all_goals exact fin_pu rfl rfl
      have hel : ∀ i : Nat, i < D.length → ∃ p : Nat, p < 5 ∧ at' D (i : Int) = (p : Int) := fun i hi' => by
        obtain ⟨q, h1, h2, _⟩ := (hmm _).1 (at_mem D i hi')
        exact ⟨q, h1, h2⟩
      have hwr := wrTo_ok hok rfl hel
      have hcl' := hcl rfl
      clear hcl hdn ham
      simp -implicitDefEqProofs only [go_sem, hl1]
      (repeat' (first | ((with_reducible first | refine gon ?_ ?_ | refine gos ?_ ?_ | refine cdn ?_ ?_ | refine cds ?_ ?_ | refine gpn ?_ ?_ | refine gps ?_ ?_) <;> intro h <;> (try simp only [dt, df, gi, gt] at h) <;> try simp -implicitDefEqProofs only [go_sem, *]) | ((with_reducible refine And.intro ?_ ?_); (· first | omega | (simp only [List.length_take]; omega)); try simp -implicitDefEqProofs only [go_sem, *]) | fail))
      clear hl1
      refine cp_loop (fun i : Nat => ⟨(bts l :: .any :: Bo false :: .ref 0 5 0 0 :: ints D :: .any :: .ref 1 5 0 0 :: I (i : Int) :: .any :: .any :: .any :: .any :: .any :: .any :: .any :: .any :: .any :: .any :: .any :: .any :: .any :: .any :: .any :: .any :: .any :: .any :: .any :: .any :: .any :: .any :: .any :: .any :: .any :: .any :: .any :: .any :: .any :: .any :: .any :: .any :: .any :: .any :: .any :: .any :: .any :: .any :: .any :: .any :: .any :: .any :: .any :: .any :: .any :: .any :: .any :: .any :: .any :: .any :: .any :: .any :: .any :: .any :: .any :: .any :: .any :: .any :: .any :: .any :: .any :: .any :: .any :: .any :: .any :: .any :: .any :: .any :: .any :: .any :: .any :: .any :: .any :: .any :: .any :: .any :: .any :: .any :: .any :: []), [some ⟨5, [eA ⟨ea, eb, ec, es, false⟩]⟩, some ⟨5, [eA (wrTo ⟨ea, eb, ec, es, false⟩ D i)]⟩], []⟩) (fun i => i ≤ D.length) (fun i => D.length - i) 0 ?_ ?_ ?_
      · exact Nat.zero_le _
      · refine wk_tm ?_; repeat (first | exact WL.nil | (with_reducible refine WL.any _ _ _ ?_) | (with_reducible refine WL.same _ _ _ ?_) | (refine WL.eq _ _ _ _ rfl ?_))
      · rintro i hi'
        have hib : i < 4611686018427387904 := by omega
        have hw := hwr i hi'
        by_cases hil : i < D.length
        · have hl1 : (i : Int) < (D.length : Int) := by omega
          obtain ⟨q, hq, eq⟩ := hel i hil
          have c5 := EngineWriteI_fn (wrTo ⟨ea, eb, ec, es, false⟩ D i) (at' D (i : Int)) (small_of_inv (inv_of_ok hw.ok))
          unfold writeE at c5
          rw [if_pos ⟨hw.ok, hw.down, by rw [eq]; unfold isIn; simp; omega⟩] at c5
          simp only at c5
          rw [show (wrTo ⟨ea, eb, ec, es, false⟩ D i).write (at' D (i : Int)) = wrTo ⟨ea, eb, ec, es, false⟩ D (i + 1) from rfl] at c5
          generalize wrTo ⟨ea, eb, ec, es, false⟩ D i = x at c5 ⊢
          obtain ⟨y, hy⟩ : ∃ y, wrTo ⟨ea, eb, ec, es, false⟩ D (i + 1) = y := ⟨_, rfl⟩
          rw [hy] at c5
          clear hwr hcl' hmm hel hw eq hq
          have hwi : IntKind.i64.wrap ((i : Int) + 1) = ((i + 1 : Nat) : Int) := by rw [wrap_ok (by omega) (by omega)]; omega
          simp -implicitDefEqProofs only [go_sem, hl1, hib]
          (repeat' (first | ((with_reducible first | refine gon ?_ ?_ | refine gos ?_ ?_ | refine cdn ?_ ?_ | refine cds ?_ ?_ | refine gpn ?_ ?_ | refine gps ?_ ?_) <;> intro h <;> (try simp only [dt, df, gi, gt] at h) <;> try simp -implicitDefEqProofs only [go_sem, *]) | ((with_reducible refine And.intro ?_ ?_); (· first | omega | (simp only [List.length_take]; omega)); try simp -implicitDefEqProofs only [go_sem, *]) | fail))
          refine cp_oneJ (st1 := ?s) ?h ?k
          case h =>
            refine cp_drawG (id := 18) 12 (fun S => getO S 1 = some ⟨5, [eA x]⟩) mixed rfl ?_
            ((refine expG_get 0 (eA x) rfl ?_ ?_ ?_ ?_ ?_); (· decide +kernel); (· decide +kernel); (· rfl); (· (intro S hS0; simp -implicitDefEqProofs only [go_sem, hS0, *])); try simp -implicitDefEqProofs only [go_sem, List.set_cons_succ, List.set_cons_zero])
            ((refine expG_get 1 (ints D) rfl ?_ ?_ ?_ ?_ ?_); (· decide +kernel); (· decide +kernel); (· rfl); (· (intro S hS0; simp -implicitDefEqProofs only [go_sem, hS0, *])); try simp -implicitDefEqProofs only [go_sem, List.set_cons_succ, List.set_cons_zero])
            ((refine expG_get 2 (I i) rfl ?_ ?_ ?_ ?_ ?_); (· decide +kernel); (· decide +kernel); (· rfl); (· (intro S hS0; simp -implicitDefEqProofs only [go_sem, hS0, *])); try simp -implicitDefEqProofs only [go_sem, List.set_cons_succ, List.set_cons_zero])
            ((refine expG_get 3 (.ro [iD (at' D (i : Int))]) rfl ?_ ?_ ?_ ?_ ?_); (· decide +kernel); (· decide +kernel); (· rfl); (· (intro S hS0; simp -implicitDefEqProofs only [go_sem, hS0, *])); try simp -implicitDefEqProofs only [go_sem, List.set_cons_succ, List.set_cons_zero])
            ((refine expG_get 4 (I (at' D (i : Int))) rfl ?_ ?_ ?_ ?_ ?_); (· decide +kernel); (· decide +kernel); (· rfl); (· (intro S hS0; simp -implicitDefEqProofs only [go_sem, hS0, *])); try simp -implicitDefEqProofs only [go_sem, List.set_cons_succ, List.set_cons_zero])
            (repeat' (first | ((with_reducible first | refine gon ?_ ?_ | refine gos ?_ ?_ | refine cdn ?_ ?_ | refine cds ?_ ?_ | refine gpn ?_ ?_ | refine gps ?_ ?_) <;> intro h <;> (try simp only [dt, df, gi, gt] at h) <;> try simp -implicitDefEqProofs only [go_sem, *]) | ((with_reducible refine And.intro ?_ ?_); (· first | omega | (simp only [List.length_take]; omega)); try simp -implicitDefEqProofs only [go_sem, *]) | first | ((with_reducible refine enter_pu (c5) ?_ ?_ ?_); (· rfl); (· rfl); try simp -implicitDefEqProofs only [go_sem, *]) | ((with_reducible refine expG_two 5 9 ?_ ?_ ?_); (· decide +kernel); all_goals (try simp -implicitDefEqProofs only [go_sem, *])) | ((with_reducible refine expG_two 6 9 ?_ ?_ ?_); (· decide +kernel); all_goals (try simp -implicitDefEqProofs only [go_sem, *])) | ((with_reducible refine expG_two 7 8 ?_ ?_ ?_); (· decide +kernel); all_goals (try simp -implicitDefEqProofs only [go_sem, *])) | ((with_reducible refine expG_two 8 9 ?_ ?_ ?_); (· decide +kernel); all_goals (try simp -implicitDefEqProofs only [go_sem, *])) | ((with_reducible refine expG_two 7 9 ?_ ?_ ?_); (· decide +kernel); all_goals (try simp -implicitDefEqProofs only [go_sem, *])) | ((with_reducible refine expG_two 8 10 ?_ ?_ ?_); (· decide +kernel); all_goals (try simp -implicitDefEqProofs only [go_sem, *])) | ((with_reducible refine expG_three 7 8 9 ?_ ?_ ?_ ?_); (· decide +kernel); all_goals (try simp -implicitDefEqProofs only [go_sem, *])) | ((with_reducible refine expG_one 5 ?_ ?_); (· decide +kernel); try simp -implicitDefEqProofs only [go_sem, *]) | ((with_reducible refine expG_one 6 ?_ ?_); (· decide +kernel); try simp -implicitDefEqProofs only [go_sem, *]) | ((with_reducible refine expG_one 7 ?_ ?_); (· decide +kernel); try simp -implicitDefEqProofs only [go_sem, *]) | ((with_reducible refine expG_one 8 ?_ ?_); (· decide +kernel); try simp -implicitDefEqProofs only [go_sem, *]) | ((with_reducible refine expG_one 9 ?_ ?_); (· decide +kernel); try simp -implicitDefEqProofs only [go_sem, *]) | ((with_reducible refine expG_one 10 ?_ ?_); (· decide +kernel); try simp -implicitDefEqProofs only [go_sem, *]) | ((with_reducible refine expG_one 11 ?_ ?_); (· decide +kernel); try simp -implicitDefEqProofs only [go_sem, *]) | ((with_reducible refine expG_end ?_ ?_); (· decide +kernel); try simp -implicitDefEqProofs only [go_sem, *])))
            all_goals exact rfl
          case k =>
            simp -implicitDefEqProofs only [go_sem, true_and, hwi]
            (repeat' (first | ((with_reducible first | refine gon ?_ ?_ | refine gos ?_ ?_ | refine cdn ?_ ?_ | refine cds ?_ ?_ | refine gpn ?_ ?_ | refine gps ?_ ?_) <;> intro h <;> (try simp only [dt, df, gi, gt] at h) <;> try simp -implicitDefEqProofs only [go_sem, *]) | ((with_reducible refine And.intro ?_ ?_); (· first | omega | (simp only [List.length_take]; omega)); try simp -implicitDefEqProofs only [go_sem, *]) | fail))
            refine ⟨i + 1, by omega, by omega, ?_⟩
            rw [hy]
            refine WkN.trans (wk_tm ?_) (wk_trunc (S := [some ⟨5, _⟩, some ⟨5, _⟩]) (Nat.le_refl _) rfl (by first | rfl | (simp only [sltB, List.all_cons, List.all_nil, slt_p, slt_I, slt_r, Bool.and_true]; done) | (simp only [sltB, List.all_cons, List.all_nil, slt_p, slt_I, slt_r, Bool.and_true]; rfl))); repeat (first | exact WL.nil | (with_reducible refine WL.any _ _ _ ?_) | (with_reducible refine WL.same _ _ _ ?_) | (refine WL.eq _ _ _ _ rfl ?_))
        · have hl1 : ¬ (i : Int) < (D.length : Int) := by omega
          have ei : i = D.length := by omega
          subst ei
          have hx5 : (wrTo ⟨ea, eb, ec, es, false⟩ D D.length).disk.length = 5 := (inv_of_ok hw.ok).disk.len
          have hb5 : eb.length = 5 := hi.mem.len
          have hat : ∀ p : Nat, p < 5 → at' (wrTo ⟨ea, eb, ec, es, false⟩ D D.length).disk (p : Int) = at' eb (p : Int) := fun p hp => by
            rcases hw.disk p hp with h1 | ⟨h1, h2⟩
            · exact h1
            · rw [h1]
              refine hcl' p hp ?_
              apply Classical.byContradiction
              intro hne
              have hm := (hmm (p : Int)).2 ⟨p, hp, rfl, hne⟩
              obtain ⟨j, hj, e⟩ := List.mem_iff_getElem.1 hm
              exact h2 j hj (by simp [at', List.getD, hj, e])
          have hxd : (wrTo ⟨ea, eb, ec, es, false⟩ D D.length).disk = eb := by
            refine List.ext_getElem (by rw [hx5, hb5]) fun p h1 h2 => ?_
            have := hat p (by omega)
            simpa [at', List.getD, h1, h2] using this
          have hxm : (wrTo ⟨ea, eb, ec, es, false⟩ D D.length).mem = eb := hw.mem
          have c6 := DirtyI_fn _ (small_of_inv (inv_of_ok hw.ok))
          rw [dirtE_nil (fun p hp => by rw [hxd, hxm])] at c6
          have c7 := ltPagesSame eb hsm.mem hsm.mv
          obtain ⟨x, hx⟩ : ∃ x, wrTo ⟨ea, eb, ec, es, false⟩ D D.length = x := ⟨_, rfl⟩
          rw [hx] at c6 hxd hxm ⊢
          obtain ⟨xa, xb, xc, xs, xd⟩ := x
          simp only at hxd hxm
          subst hxd hxm
          clear hat hx5 hb5 hw hwr hcl' hmm hel hx hok hi
          simp -implicitDefEqProofs only [go_sem, hl1]
          (repeat' (first | ((with_reducible first | refine gon ?_ ?_ | refine gos ?_ ?_ | refine cdn ?_ ?_ | refine cds ?_ ?_ | refine gpn ?_ ?_ | refine gps ?_ ?_) <;> intro h <;> (try simp only [dt, df, gi, gt] at h) <;> try simp -implicitDefEqProofs only [go_sem, *]) | ((with_reducible refine And.intro ?_ ?_); (· first | omega | (simp only [List.length_take]; omega)); try simp -implicitDefEqProofs only [go_sem, *]) | first | ((with_reducible refine enter_pu (c6) ?_ ?_ ?_); (· rfl); (· rfl); try simp -implicitDefEqProofs only [go_sem, *]) | ((with_reducible refine enter_pu (c7) ?_ ?_ ?_); (· rfl); (· rfl); try simp -implicitDefEqProofs only [go_sem, *])))
          all_goals exact fin_pu rfl rfl
end Go.Proofs.YtagjgjhkdihodaaGreat.Am
end
