/- Lemmas and walks: Ld Le Fx Op Oq Ra Ga Gb Gc Gd Ge Gf Gg Gh Gi Gj Gk Gl Gm Gn Go Ha Ob Oc Hb Hc Hd He Hk Ia Ja Jb Jc Jd Je Jf Ka Kb Xa Xb Xc Xd Xe Xf Xg Xi Xj Xl Xm Xn Xo Xh Xs Xt Xu. No conditions. -/
import Derived.Test.YtfcnajhanjhonaaGreatSh
import Derived.Test.YtfcnajhanjhonaaGreatJ4
import Derived.Test.YtfcnajhanjhonaaGreatJ2
import Derived.Laws.Strings
import Derived.Test.YtfcnajhanjhonaaGreatJ3
import Derived.ProofKit
import Derived.SizedLaws
import Derived.Test.YtfcnajhanjhonaaGreatChecked
import Derived.Carry
section
set_option linter.unusedVariables false
set_option linter.unusedSimpArgs false
set_option maxRecDepth 100000
set_option maxHeartbeats 8000000
namespace Go.Proofs.YtfcnajhanjhonaaGreat.Am
open Go Go.RowKit Go.Proofs
attribute [local congr] opsP_congr codeP_congr AWP_congr afterR_congr preP_congr afterPre_congr gPre_congr gOps_congr condP_congr stepE_congr
attribute [local go_sem] ty_int ty_bool ty_str ty_u8 ty_ints ty_bytes ty_page ty_pages ty_lpage ty_lpages ty_rec ty_recs ty_lrec ty_lrecs ty_eng ty_leng
attribute [local go_sem] true_and and_true beq_true' beq_false' toNat_cast Int.natCast_nonneg Bool.not_not Bool.not_true Bool.not_false decide_true decide_false Bool.or_false Bool.false_or Bool.or_true Bool.true_or Bool.and_false Bool.false_and Nat.zero_add Int.toNat_of_nonneg wrap_succ wrap_m1 wrap_nat succ_m1 cast0 succ_pos' succ_ne' succ_bne' ge_iff_le gt_iff_lt if_true if_false
open Go.Sort Go.RowKit Go.Lib
/-- The one object of a call, its numbers written anew by the library. -/
theorem own_put {ok : Nat → Prop} {μ : Nat → Nat} {w : World} {l l' : List Int} (hl : l'.length = l.length) (hne : l ≠ []) (hrs : RelS ok w μ [some ⟨1, l.map I⟩]) (n : Nat) (os : Array Obj) (w' : World)
    (hw' : w' = grow (putRow (Value.int .i64) (Sort.ahead w n) (μ 0) 0 l'.toArray) os) :
    RelS ok w' μ [some ⟨1, l'.map I⟩] ∧ Mod w (liveB [some ⟨1, l.map I⟩] μ) w' ∧ (∀ b, b < w.heap.size → liveB [some ⟨1, l'.map I⟩] μ b → liveB [some ⟨1, l.map I⟩] μ b) := by
  subst hw'
  obtain ⟨cs, ty, hb, hs, hc⟩ := hrs.blk 0 ⟨1, l.map I⟩ rfl (by simpa using hne)
  have hg := grownBy_sortedI (w := w) (g := μ 0) (n := n) (os := os) l'.toArray
  have hh := heap_sortedI (n := n) (os := os) l'.toArray hb
  have hcs : l.length ≤ cs.size := by simpa using hs
  have hlive : liveB [some ⟨1, l.map I⟩] μ (μ 0) := ⟨0, ⟨1, l.map I⟩, rfl, by simpa using hne, rfl⟩
  refine ⟨⟨?_, ?_, ?_⟩, ?_, ?_⟩
  · intro i o hi hne'
    rcases i with _ | i
    · simp at hi
      subst hi
      refine ⟨_, ty, hh, by simp [putCells, hl]; omega, fun k x j y hk hj => ?_⟩
      simp only [List.getElem?_map, Option.map_eq_some_iff] at hk
      obtain ⟨m, hm, rfl⟩ := hk
      have hkl := (List.getElem?_eq_some_iff.1 hm).1
      rcases j with _ | j
      · simp [AV.cells] at hj
        subst hj
        refine ⟨.int .i64 m, ?_, .prim _ rfl⟩
        have hkc : k < cs.size := by omega
        simp [putCells, hkc, hkl]
        exact (List.getElem?_eq_some_iff.1 hm).2
      · simp [AV.cells] at hj
    · simp at hi
  · intro i o hi
    rcases i with _ | i
    · simp at hi
      subst hi
      refine ⟨by simp, fun x hx => ?_⟩
      obtain ⟨m, _, rfl⟩ := List.mem_map.1 hx
      simp [AV.cells, AV.scalar]
    · simp at hi
  · intro i j oi oj hi hj _ _ _
    have h1 := (List.getElem?_eq_some_iff.1 hi).1
    have h2 := (List.getElem?_eq_some_iff.1 hj).1
    simp at h1 h2
    omega
  · refine ⟨hg.os, hg.tape, hg.output, hg.size, fun b hbl hn => hg.block b hbl (fun e => hn (by cases e; exact hlive)), fun b cs' ty' fz hb' => ?_⟩
    by_cases e : b = μ 0
    · subst e
      rw [hb] at hb'
      cases hb'
      exact ⟨_, hh, by simp [putCells]⟩
    · exact ⟨cs', (hg.block b (Array.getElem?_eq_some_iff.1 hb').1 (fun e' => e (by cases e'; rfl))).trans hb', rfl⟩
  · rintro b _ ⟨i, o, hi, _, rfl⟩
    have h1 := (List.getElem?_eq_some_iff.1 hi).1
    simp at h1
    subst h1
    exact hlive
theorem holds_own {ok : Nat → Prop} {μ : Nat → Nat} {w : World} {l : List Int} (hne : l ≠ []) (hrs : RelS ok w μ [some ⟨1, l.map I⟩]) : Holds (Value.int .i64) w (μ 0) 0 l.toArray ∧ μ 0 < w.heap.size := by
  obtain ⟨cs, ty, hb, hs, hc⟩ := hrs.blk 0 ⟨1, l.map I⟩ rfl (by simpa using hne)
  refine ⟨fun j hj => ?_, (Array.getElem?_eq_some_iff.1 hb).1⟩
  have hj' : j < l.length := by simpa using hj
  obtain ⟨v, hv, hr⟩ := hc j (I l[j]) 0 (I l[j]) (by simp [List.getElem?_map, List.getElem?_eq_getElem hj']) rfl
  cases hr
  refine ⟨?_, ?_⟩
  · simp only [World.cell?, hb, Nat.zero_add]
    simpa [hj'] using hv
  · simp [World.frozen?, hb]
theorem own_val {ok : Nat → Prop} {μ : Nat → Nat} {w : World} {S : Store} {n : Nat} {v : Value} (h : Rep ok w μ S (.own 0 1 0 n) v) : (n = 0 ∧ ∃ A, v = .slice A 0 0) ∨ (0 < n ∧ ∃ c cs ty, v = .slice (some ⟨μ 0, 0, none⟩) n c ∧ n ≤ c ∧ w.heap[μ 0]? = some (.cells cs ty (0, 0)) ∧ c ≤ cs.size) := by
  cases h with
  | own0 _ _ _ A hi => exact .inl ⟨rfl, A, rfl⟩
  | own _ _ _ _ c cs ty hi h0 hc hb hsz => exact .inr ⟨h0, c, cs, ty, by simp, hc, hb, by simpa using hsz⟩
def sorted (l : List Int) : List Int := l.mergeSort fun x y => decide (x ≤ y)
theorem sorted_len (l : List Int) : (sorted l).length = l.length := List.length_mergeSort l
theorem sorted_nil : sorted [] = [] := by simp [sorted]
theorem Sort_own (l : List Int) (hb : l.length < 4611686018427387904) : AFn Tryz.prog 107 [.own 0 1 0 l.length] [some ⟨1, l.map I⟩] (fun r S' mv => (r = .tup [] ∧ S' = [some ⟨1, (sorted l).map I⟩]) ∧ mv = []) := by
  refine ⟨⟨_, Tryz.func107, by decide, rfl⟩, fun ok μ w vs hok hrs hl hr => ?_⟩
  obtain ⟨v, rfl⟩ : ∃ v, vs = #[v] := by
    rcases vs with ⟨vs⟩
    rcases vs with _ | ⟨v0, _ | ⟨v1, vs⟩⟩ <;> simp at hl
    exact ⟨v0, rfl⟩
  have r0 : Rep ok w μ [some ⟨1, l.map I⟩] (.own 0 1 0 l.length) v := hr 0 _ rfl
  rcases own_val r0 with ⟨h0, A, rfl⟩ | ⟨h0, c, cs, ty, rfl, hc, hbk, hcs⟩
  · obtain rfl := List.eq_nil_of_length_eq_zero h0
    refine (Tryz.slices_Sort_int_none A 0 w).mono ?_
    rintro e w' ⟨rfl, rfl⟩
    rw [sorted_nil]
    exact ⟨_, _, _, [], μ, rfl, ⟨⟨rfl, rfl⟩, rfl⟩, hrs, .tup [] [] rfl (fun j x v hj _ => by simp at hj), Mod.refl _ _, fun b _ h => h, Nat.le_refl _, fun i _ _ => rfl⟩
  · have hne : l ≠ [] := by intro e; subst e; simp at h0
    obtain ⟨hH, hlt⟩ := holds_own hne hrs
    refine (Tryz.slices_Sort_int (μ 0) 0 c l w hH hlt hb).mono ?_
    rintro e w' ⟨rfl, n, os, hw'⟩
    obtain ⟨p1, p2, p3⟩ := own_put (sorted_len l) hne hrs n os w' hw'
    exact ⟨_, _, _, [], μ, rfl, ⟨⟨rfl, rfl⟩, rfl⟩, p1, .tup [] [] rfl (fun j x v hj _ => by simp at hj), p2, p3, Nat.le_refl _, fun i _ _ => rfl⟩
/-- What a list leaves when neighbours that are the same are one; and zeros behind it. -/
def once (l : List Int) : List Int := Go.Lib.compact l
def onceZ (l : List Int) : List Int := once l ++ List.replicate (l.length - (once l).length) 0
theorem Compact_own (l : List Int) (hb : l.length < 4611686018427387904) (hlen : (once l).length ≤ l.length) (hpos : l ≠ [] → once l ≠ []) : AFn Tryz.prog 109 [.own 0 1 0 l.length] [some ⟨1, l.map I⟩]
    (fun r S' mv => (r = .own 0 1 0 (once l).length ∧ S' = [some ⟨1, (onceZ l).map I⟩]) ∧ mv = []) := by
  refine ⟨⟨_, Tryz.func109, by decide, rfl⟩, fun ok μ w vs hok hrs hl hr => ?_⟩
  obtain ⟨v, rfl⟩ : ∃ v, vs = #[v] := by
    rcases vs with ⟨vs⟩
    rcases vs with _ | ⟨v0, _ | ⟨v1, vs⟩⟩ <;> simp at hl
    exact ⟨v0, rfl⟩
  have r0 : Rep ok w μ [some ⟨1, l.map I⟩] (.own 0 1 0 l.length) v := hr 0 _ rfl
  rcases own_val r0 with ⟨h0, A, rfl⟩ | ⟨h0, c, cs, ty, rfl, hc, hbk, hcs⟩
  · obtain rfl := List.eq_nil_of_length_eq_zero h0
    refine (Tryz.slices_Compact_int_empty A 0 w).mono ?_
    rintro e w' ⟨rfl, rfl⟩
    exact ⟨_, _, _, [], μ, rfl, ⟨⟨rfl, rfl⟩, rfl⟩, hrs, .own0 _ _ _ _ (by simp), Mod.refl _ _, fun b _ h => h, Nat.le_refl _, fun i _ _ => rfl⟩
  · have hne : l ≠ [] := by intro e; subst e; simp at h0
    obtain ⟨hH, hlt⟩ := holds_own hne hrs
    refine (Tryz.slices_Compact_int (μ 0) 0 c l w hH (by omega) hc).mono ?_
    rintro e w' ⟨rfl, q, hw'⟩
    have hz : (onceZ l).length = l.length := by simp only [onceZ, List.length_append, List.length_replicate]; omega
    obtain ⟨p1, p2, p3⟩ := own_put hz hne hrs q #[] w' (by rw [grow_empty]; exact hw')
    obtain ⟨cs', hb', es⟩ := p2.shape _ _ _ _ hbk
    refine ⟨_, _, _, [], μ, rfl, ⟨⟨rfl, rfl⟩, rfl⟩, p1, ?_, p2, p3, Nat.le_refl _, fun i _ _ => rfl⟩
    have h1 : 0 < (once l).length := List.length_pos_iff.2 (hpos hne)
    have := Rep.own (ok := ok) (w := w') (μ := μ) (S := [some ⟨1, (onceZ l).map I⟩]) 0 1 0 (once l).length c cs' ty (by simp) h1 (by omega) hb' (by omega)
    simpa [once] using this
end Go.Proofs.YtfcnajhanjhonaaGreat.Am
end
section
set_option linter.unusedVariables false
set_option linter.unusedSimpArgs false
set_option maxRecDepth 100000
set_option maxHeartbeats 8000000
namespace Go.Proofs.YtfcnajhanjhonaaGreat.Am
open Go Go.RowKit Go.Proofs
attribute [local go_sem_proc] Nat.reduceAdd Nat.reduceSub Nat.reduceMul Nat.reduceLT Nat.reduceLeDiff Nat.reduceEqDiff Int.reduceBEq Int.reduceBNe Int.reduceNeg Int.reduceSub Int.reduceLE Int.reduceLT
attribute [local go_sem_proc ↓] reduceIte
attribute [local congr] opsP_congr codeP_congr AWP_congr afterR_congr preP_congr afterPre_congr gPre_congr gOps_congr condP_congr stepE_congr
attribute [local go_sem] ty_int ty_bool ty_str ty_u8 ty_ints ty_bytes ty_page ty_pages ty_lpage ty_lpages ty_rec ty_recs ty_lrec ty_lrecs ty_eng ty_leng
attribute [local go_sem] true_and and_true beq_true' beq_false' toNat_cast Int.natCast_nonneg Bool.not_not Bool.not_true Bool.not_false decide_true decide_false Bool.or_false Bool.false_or Bool.or_true Bool.true_or Bool.and_false Bool.false_and Nat.zero_add Int.toNat_of_nonneg wrap_succ wrap_m1 wrap_nat succ_m1 cast0 succ_pos' succ_ne' succ_bne' ge_iff_le gt_iff_lt if_true if_false
open Go.Lib in
theorem mem_once (l : List Int) (x : Int) : x ∈ once l ↔ x ∈ l := by
  unfold once compact compactUpTo
  simp only [List.mem_map, List.mem_filter, List.mem_range]
  constructor
  · rintro ⟨j, ⟨hj, _⟩, rfl⟩
    simp [hj]
  · intro h
    obtain ⟨j, hj, rfl⟩ := List.mem_iff_getElem.1 h
    induction j using Nat.strongRecOn with
    | _ j ih =>
      by_cases hk : keeps l.toArray j = true
      · exact ⟨j, ⟨hj, hk⟩, by simp [hj]⟩
      · have hj0 : 0 < j := by
          rcases Nat.eq_zero_or_pos j with rfl | h0
          · exact absurd (keeps_lt_one l.toArray 0 (by omega)) hk
          · exact h0
        have e : l.toArray[j]! = l.toArray[j - 1]! := Classical.byContradiction fun hn => hk (keeps_pos hn)
        simp [hj, show j - 1 < l.length by omega] at e
        obtain ⟨q, h1, h2⟩ := ih (j - 1) (by omega) (by omega) (List.getElem_mem _)
        exact ⟨q, h1, by rw [h2, e]⟩
open Go.Lib in
theorem once_len (l : List Int) : (once l).length ≤ l.length := by
  unfold once compact compactUpTo
  rw [List.length_map]
  exact Nat.le_trans (List.length_filter_le _ _) (by simp)
theorem once_pos {l : List Int} (h : l ≠ []) : once l ≠ [] := by
  obtain ⟨x, hx⟩ := List.exists_mem_of_ne_nil l h
  intro e
  have := (mem_once l x).2 hx
  rw [e] at this
  cases this
/-- The pages of the records of a chain of which something holds. -/
def pgsRaw (l : List Rc) (pred : Rc → Bool) (c : List Nat) : List Int := (c.filter fun n : Nat => pred (at' l ((n : Int) - 1))).map fun n : Nat => (at' l ((n : Int) - 1)).page
def pgsOf (l : List Rc) (tx : Int) (pred : Rc → Bool) : List Int := once (sorted (pgsRaw l pred (chain l (lastN l tx))))
theorem pgsRaw_nil (l : List Rc) (pred : Rc → Bool) : pgsRaw l pred [] = [] := rfl
theorem pgsRaw_app (l : List Rc) (pred : Rc → Bool) (a b : List Nat) : pgsRaw l pred (a ++ b) = pgsRaw l pred a ++ pgsRaw l pred b := by simp [pgsRaw]
theorem chain_mem {l : List Rc} (hw : Wf l) {n : Nat} : ∀ m, m ≤ l.length → n ∈ chain l m → ∃ b, n = b + 1 ∧ b < l.length := by
  intro m
  induction m using Nat.strongRecOn with
  | _ m ih =>
    intro hm h
    rcases m with _ | b
    · rw [chain_zero] at h; cases h
    · obtain ⟨p, hp, hpv⟩ := hw.prev b (by omega)
      rw [chain_succ hpv hp] at h
      rcases List.mem_cons.1 h with rfl | h
      · exact ⟨b, rfl, by omega⟩
      · exact ih p (by omega) (by omega) h
@[local go_sem] theorem sc_clo0 {i g : Nat} : AV.sc [i] (.clo g []) = .clo g [] := rfl
def clipO (te : Option TI) (i z off len : Nat) (h m : AV) : OpR := match te, bndV h, bndV m with
  | some te, some h, some m => .val ((0 : Int) = 0 ∧ h = len ∧ m = len ∧ te.zs.length = z ∧ true = true) (.own i z off len)
  | _, _, _ => .stuck
@[local go_sem] theorem sliceO_clip {te : TI} {tm : List AV} {i z off len : Nat} {h m : Operand} : sliceO (some te) tm (.own i z off len) none (some h) (some m) = clipO (some te) i z off len (ev tm h) (ev tm m) := by
  simp only [sliceO, clipO, bnd_none, bnd_some, Option.isSome_some]
  split <;> simp_all
@[local go_sem] theorem clipO_some {te : TI} {i z off len : Nat} {k k' : IntKind} {h m : Int} : clipO (some te) i z off len (.prim (.int k h)) (.prim (.int k' m)) = .val ((0 : Int) = 0 ∧ h = len ∧ m = len ∧ te.zs.length = z ∧ true = true) (.own i z off len) := rfl
theorem Clip_own (n : Nat) (o : AObj) (hn : n < 4611686018427387904) : AFn Tryz.prog 108 [.own 0 1 0 n] [some o] (fun r S' mv => (r = .own 0 1 0 n ∧ S' = [some o]) ∧ mv = []) := by
  refine afn_of Tryz.func108 rfl rfl ?_
  simp -implicitDefEqProofs only [go_sem, Tryz.f108]
  (repeat' (first | ((with_reducible first | refine gon ?_ ?_ | refine gos ?_ ?_ | refine cdn ?_ ?_ | refine cds ?_ ?_ | refine gpn ?_ ?_ | refine gps ?_ ?_) <;> intro h <;> (try simp only [dt, df, gi, gt] at h) <;> try simp -implicitDefEqProofs only [go_sem, *]) | ((with_reducible refine And.intro ?_ ?_); (· first | omega | (simp only [List.length_take]; omega)); try simp -implicitDefEqProofs only [go_sem, *]) | fail))
  exact fin_same ⟨⟨rfl, rfl⟩, rfl⟩
theorem arg0_pre (l : List Int) (k : List Int) : Arg0 [some ⟨1, (l ++ k).map I⟩] true (.own 0 1 0 l.length) (ints l) := by
  refine .own 0 1 0 l.length ⟨1, (l ++ k).map I⟩ (l.map iD) rfl rfl rfl (by simp) ?_
  simp only [List.drop_zero, List.map_append]
  rw [show (l.map I ++ k.map I).take l.length = l.map I by rw [List.take_left' (by simp)]]
  exact isDs_I l
theorem pgsRaw_len (l : List Rc) (pred : Rc → Bool) (c : List Nat) : (pgsRaw l pred c).length ≤ c.length := by
  unfold pgsRaw
  rw [List.length_map]
  exact List.length_filter_le _ _
theorem mem_sorted (l : List Int) (x : Int) : x ∈ sorted l ↔ x ∈ l := List.mem_mergeSort
theorem mem_pgsOf (l : List Rc) (tx : Int) (pred : Rc → Bool) (x : Int) : x ∈ pgsOf l tx pred ↔ ∃ n ∈ chain l (lastN l tx), pred (at' l ((n : Int) - 1)) = true ∧ (at' l ((n : Int) - 1)).page = x := by
  unfold pgsOf
  rw [mem_once, mem_sorted, pgsRaw, List.mem_map]
  constructor
  · rintro ⟨n, hn, rfl⟩
    obtain ⟨h1, h2⟩ := List.mem_filter.1 hn
    exact ⟨n, h1, h2, rfl⟩
  · rintro ⟨n, h1, h2, rfl⟩
    exact ⟨n, List.mem_filter.2 ⟨h1, h2⟩, rfl⟩
theorem pgsOf_len (l : List Rc) (tx : Int) (pred : Rc → Bool) (hw : Wf l) : (pgsOf l tx pred).length ≤ 200 := by
  have h1 := once_len (sorted (pgsRaw l pred (chain l (lastN l tx))))
  rw [sorted_len] at h1
  have h2 := pgsRaw_len l pred (chain l (lastN l tx))
  have h3 := chain_len l (lastN l tx)
  have h4 := lastN_le l tx
  have h5 := hw.len
  unfold pgsOf
  omega
theorem pagesOf_fn (hl : LastC) (l : List Rc) (tx : Int) (h : FuncId) (pred : Rc → Bool) (hw : Wf l) (hh : ∀ r, Fn1 Tryz.prog h [rA r] (Bo (pred r))) : Fn1 Tryz.prog 58 [recs l, I tx, .clo h []] (ints (pgsOf l tx pred)) := by
  have hlen := hw.len
  have hcl := chain_len l (lastN l tx)
  have hll := lastN_le l tx
  have hch := chain_fn hl l tx hw
  obtain ⟨c, hc⟩ : ∃ c, chain l (lastN l tx) = c := ⟨_, rfl⟩
  rw [hc] at hcl hch
  have hcm : ∀ n ∈ c, ∃ b, n = b + 1 ∧ b < l.length := fun n hn => chain_mem hw _ hll (by rw [hc]; exact hn)
  have hout : pgsOf l tx pred = once (sorted (pgsRaw l pred c)) := by rw [pgsOf, hc]
  have hcb : c.length < 4611686018427387904 := by omega
  rw [hout]
  clear hout hc
  refine fn1_of Tryz.func58 rfl rfl ?_
  simp -implicitDefEqProofs only [go_sem, Tryz.f58]
  (repeat' (first | ((with_reducible first | refine gon ?_ ?_ | refine gos ?_ ?_ | refine cdn ?_ ?_ | refine cds ?_ ?_ | refine gpn ?_ ?_ | refine gps ?_ ?_) <;> intro h <;> (try simp only [dt, df, gi, gt] at h) <;> try simp -implicitDefEqProofs only [go_sem, *]) | ((with_reducible refine And.intro ?_ ?_); (· first | omega | (simp only [List.length_take]; omega)); try simp -implicitDefEqProofs only [go_sem, *]) | ((with_reducible refine enter_pu (hch) ?_ ?_ ?_); (· rfl); (· rfl); try simp -implicitDefEqProofs only [go_sem, *])))
  refine cp_loop (fun i : Nat => ⟨(recs l :: I tx :: .clo h [] :: .any :: .any :: .any :: nilS :: .own 0 1 0 (pgsRaw l pred (c.take i)).length :: .any :: .any :: .any :: .any :: .any :: ints (c.map fun n : Nat => (n : Int)) :: I (c.length : Int) :: I (i : Int) :: .any :: .any :: .any :: .any :: .any :: .any :: .any :: .any :: .any :: .any :: .any :: .any :: .any :: .any :: .any :: .any :: .any :: .any :: .any :: .any :: .any :: .any :: []), [some ⟨1, (pgsRaw l pred (c.take i)).map I⟩], [0]⟩) (fun i => i ≤ c.length) (fun i => c.length - i) 0 ?_ ?_ ?_
  · simp
  · simp only [List.take_zero, pgsRaw_nil]
    refine WkN.trans (wk_nil 7 1 (by omega) rfl) (WkN.trans (wk_tm ?_) (wk_mv (by simp))); simp only [List.set_cons_succ, List.set_cons_zero, List.length_nil, List.length_cons]; repeat (first | exact WL.nil | (with_reducible refine WL.any _ _ _ ?_) | (with_reducible refine WL.same _ _ _ ?_) | (refine WL.eq _ _ _ _ rfl ?_))
  · rintro i hi
    have hb : i < 4611686018427387904 := by omega
    by_cases hil : i < c.length
    · have hil' : (i : Int) < (c.length : Int) := by omega
      obtain ⟨b, hn, hbl⟩ := hcm (at' c (i : Int)) (at_mem c i hil)
      have hat : at' (c.map fun n : Nat => (n : Int)) (i : Int) = ((b + 1 : Nat) : Int) := by rw [at_mapN c i hil, hn]
      have hb3 : b < 4611686018427387904 := by omega
      have htk := take_at c i hil
      have hrl := pgsRaw_len l pred (c.take i)
      rw [List.length_take] at hrl
      have hhr := hh (at' l (b : Int))
      rcases hp : pred (at' l (b : Int)) with _ | _
      · have e : pgsRaw l pred (c.take (i + 1)) = pgsRaw l pred (c.take i) := by
          rw [← htk, pgsRaw_app, hn]
          simp [pgsRaw, hp]
        rw [hp] at hhr
        clear hn htk
        simp -implicitDefEqProofs only [go_sem, hil', hb, hat, hb3]
        (repeat' (first | ((with_reducible first | refine gon ?_ ?_ | refine gos ?_ ?_ | refine cdn ?_ ?_ | refine cds ?_ ?_ | refine gpn ?_ ?_ | refine gps ?_ ?_) <;> intro h <;> (try simp only [dt, df, gi, gt] at h) <;> try simp -implicitDefEqProofs only [go_sem, *]) | ((with_reducible refine And.intro ?_ ?_); (· first | omega | (simp only [List.length_take]; omega)); try simp -implicitDefEqProofs only [go_sem, *]) | ((with_reducible refine enter_pu (hhr) ?_ ?_ ?_); (· rfl); (· rfl); try simp -implicitDefEqProofs only [go_sem, *])))
        refine ⟨i + 1, by omega, by omega, ?_⟩
        rw [e]
        refine WkN.trans (wk_tm ?_) (wk_trunc (S := [some ⟨1, _⟩]) (Nat.le_refl _) rfl (by first | rfl | (simp only [sltB, List.all_cons, List.all_nil, slt_p, slt_I, slt_r, Bool.and_true]; done) | (simp only [sltB, List.all_cons, List.all_nil, slt_p, slt_I, slt_r, Bool.and_true]; rfl))); repeat (first | exact WL.nil | (with_reducible refine WL.any _ _ _ ?_) | (with_reducible refine WL.same _ _ _ ?_) | (refine WL.eq _ _ _ _ rfl ?_))
      · have e : pgsRaw l pred (c.take (i + 1)) = pgsRaw l pred (c.take i) ++ [(at' l (b : Int)).page] := by
          rw [← htk, pgsRaw_app, hn]
          simp [pgsRaw, hp]
        rw [hp] at hhr
        clear hn htk
        simp -implicitDefEqProofs only [go_sem, hil', hb, hat, hb3]
        (repeat' (first | ((with_reducible first | refine gon ?_ ?_ | refine gos ?_ ?_ | refine cdn ?_ ?_ | refine cds ?_ ?_ | refine gpn ?_ ?_ | refine gps ?_ ?_) <;> intro h <;> (try simp only [dt, df, gi, gt] at h) <;> try simp -implicitDefEqProofs only [go_sem, *]) | ((with_reducible refine And.intro ?_ ?_); (· first | omega | (simp only [List.length_take]; omega)); try simp -implicitDefEqProofs only [go_sem, *]) | ((with_reducible refine enter_pu (hhr) ?_ ?_ ?_); (· rfl); (· rfl); try simp -implicitDefEqProofs only [go_sem, *])))
        refine ⟨i + 1, by omega, by omega, ?_⟩
        rw [e]
        simp only [List.length_append, List.length_cons, List.length_nil]
        refine WkN.trans (WkN.trans (wk_tm ?_) (wk_trunc (S := [some ⟨1, _⟩]) (Nat.le_refl _) rfl (by first | rfl | (simp only [sltB, List.all_cons, List.all_nil, slt_p, slt_I, slt_r, Bool.and_true]; done) | (simp only [sltB, List.all_cons, List.all_nil, slt_p, slt_I, slt_r, Bool.and_true]; rfl)))) (wk_mv (by simp)); repeat (first | exact WL.nil | (with_reducible refine WL.any _ _ _ ?_) | (with_reducible refine WL.same _ _ _ ?_) | (refine WL.eq _ _ _ _ rfl ?_))
    · have hil' : ¬ (i : Int) < (c.length : Int) := by omega
      obtain rfl : i = c.length := by omega
      rw [List.take_length]
      have hrl := pgsRaw_len l pred c
      have hso := Sort_own (pgsRaw l pred c) (by omega)
      have hco := Compact_own (sorted (pgsRaw l pred c)) (by rw [sorted_len]; omega) (once_len _) once_pos
      rw [sorted_len] at hco
      simp -implicitDefEqProofs only [go_sem, hil']
      (repeat' (first | ((with_reducible first | refine gon ?_ ?_ | refine gos ?_ ?_ | refine cdn ?_ ?_ | refine cds ?_ ?_ | refine gpn ?_ ?_ | refine gps ?_ ?_) <;> intro h <;> (try simp only [dt, df, gi, gt] at h) <;> try simp -implicitDefEqProofs only [go_sem, *]) | ((with_reducible refine And.intro ?_ ?_); (· first | omega | (simp only [List.length_take]; omega)); try simp -implicitDefEqProofs only [go_sem, *]) | fail))
      refine enter_keep hso ?_
      rintro r S' ⟨rfl, rfl⟩
      simp -implicitDefEqProofs only [go_sem, true_and]
      refine enter_keep hco ?_
      rintro r S' ⟨rfl, rfl⟩
      simp -implicitDefEqProofs only [go_sem, true_and]
      refine enter_keep (Clip_own _ _ ?_) ?_
      · have := once_len (sorted (pgsRaw l pred c))
        rw [sorted_len] at this
        omega
      rintro r S' ⟨rfl, rfl⟩
      simp -implicitDefEqProofs only [go_sem, true_and]
      exact fin_1 (argT0 (arg0_pre _ _))
def pagesC (hl : LastC) : PagesC := ⟨pgsOf, mem_pgsOf, pgsOf_len, fun l tx h pred hw hh => pagesOf_fn hl l tx h pred hw hh⟩
end Go.Proofs.YtfcnajhanjhonaaGreat.Am
end
section
set_option linter.unusedVariables false
set_option linter.unusedSimpArgs false
set_option maxRecDepth 100000
set_option maxHeartbeats 8000000
namespace Go.Proofs.YtfcnajhanjhonaaGreat.Am
open Go Go.RowKit Go.Proofs
attribute [local congr] opsP_congr codeP_congr AWP_congr afterR_congr preP_congr afterPre_congr gPre_congr gOps_congr condP_congr stepE_congr
attribute [local go_sem] ty_int ty_bool ty_str ty_u8 ty_ints ty_bytes ty_page ty_pages ty_lpage ty_lpages ty_rec ty_recs ty_lrec ty_lrecs ty_eng ty_leng
attribute [local go_sem] true_and and_true beq_true' beq_false' toNat_cast Int.natCast_nonneg Bool.not_not Bool.not_true Bool.not_false decide_true decide_false Bool.or_false Bool.false_or Bool.or_true Bool.true_or Bool.and_false Bool.false_and Nat.zero_add Int.toNat_of_nonneg wrap_succ wrap_m1 wrap_nat succ_m1 cast0 succ_pos' succ_ne' succ_bne' ge_iff_le gt_iff_lt if_true if_false
theorem lastC : LastC := fun l tx h => last_c l tx h
theorem lastOfC : LastOfC := fun l page h => lastOf_c l page h
theorem recC : RecC := RecOkI_fn
theorem sameInts_refl (a : List Int) : sameInts a a = true := by
  unfold sameInts
  simp [allFrom_iff]
theorem sameP_refl (p : Pg) : sameP p p = true := by simp [sameP, sameInts_refl]
theorem sameR_refl (r : Rc) : sameR r r = true := by simp [sameR]
theorem sameE_refl (e : Eng) : sameE e e = true := by
  unfold sameE samePs sameRs
  simp [allFrom_iff, sameP_refl, sameR_refl]
theorem szRest_all (ps : List Pg) (i a : Nat) (h : ¬ szRest ps i a < 0) : ∀ k, i ≤ k → k < ps.length → (at' ps (k : Int)).vals.length ≤ a := by
  induction hm : ps.length - i generalizing i a with
  | zero => intro k h1 h2; omega
  | succ m ih =>
    intro k h1 h2
    rw [szRest_lt (by omega)] at h
    split at h
    · omega
    · rcases Nat.eq_or_lt_of_le h1 with rfl | h1
      · omega
      · have := ih (i + 1) _ h (by omega) k h1 h2
        omega
theorem szPs_all (ps : List Pg) (a : Nat) (h : ¬ szPs ps a < 0) : ps.length ≤ a ∧ ∀ p ∈ ps, p.vals.length ≤ a := by
  unfold szPs at h
  split at h
  · omega
  · refine ⟨by omega, fun p hp => ?_⟩
    obtain ⟨k, hk, rfl⟩ := mem_at hp
    have := szRest_all ps 0 _ h k (Nat.zero_le _) hk
    omega
theorem mid_of {e : Eng} (h : ¬ szE e 1048576 < 0) : e.mid := by
  unfold szE at h
  split at h
  · omega
  · rename_i h1
    split at h
    · omega
    · rename_i h2
      obtain ⟨a1, a2⟩ := szPs_all _ _ h1
      obtain ⟨b1, b2⟩ := szPs_all _ _ h2
      have l1 := szPs_le e.disk 1048576
      have l2 := szPs_le e.mem (szPs e.disk 1048576).toNat
      unfold subI at h
      split at h
      · omega
      · exact ⟨by omega, by omega, by omega, fun p hp => by have := a2 p hp; omega, fun p hp => by have := b2 p hp; omega⟩
end Go.Proofs.YtfcnajhanjhonaaGreat.Am
end
section
set_option linter.unusedVariables false
set_option linter.unusedSimpArgs false
set_option maxRecDepth 100000
namespace Go.Proofs.YtfcnajhanjhonaaGreat.Am
open Go Go.RowKit Go.Proofs Go.ChangeShapes
theorem mapM_get {α β : Type} {f : α → Option β} : ∀ {xs : List α} {ys : List β}, xs.mapM f = some ys → ys.length = xs.length ∧ ∀ (i : Nat) (x : α), xs[i]? = some x → ∃ y, ys[i]? = some y ∧ f x = some y
  | [], ys, h => by simp at h; subst h; simp
  | x :: xs, ys, h => by
    simp only [List.mapM_cons, Option.bind_eq_bind, Option.bind_eq_some_iff, Option.pure_def, Option.some.injEq] at h
    obtain ⟨y, hy, ys', hys, rfl⟩ := h
    obtain ⟨h1, h2⟩ := mapM_get hys
    refine ⟨by simp [h1], ?_⟩
    rintro (_ | i) x' hx
    · simp at hx; subst hx; exact ⟨y, rfl, hy⟩
    · exact h2 i x' (by simpa using hx)
def IR (n : Int) : Prop := -9223372036854775808 ≤ n ∧ n < 9223372036854775808
theorem ir_of {n : Int} (h : (Lit.int .i64 n).wf = true) : IR n := by
  have h1 : IntKind.i64.min = -9223372036854775808 := rfl
  have h2 : IntKind.i64.max = 9223372036854775807 := rfl
  simp only [Lit.wf, Bool.and_eq_true, decide_eq_true_eq] at h
  unfold IR
  omega
section
variable {H : Type} {enc : TypeId × Value → H} {w : World} {μ : Nat → Nat}
/-- Every block may be read. -/
abbrev okT : Nat → Prop := fun _ => True
abbrev OkD (μ : Nat → Nat) : Nat → Prop := fun b => okT b ∧ ¬ liveB [] μ b
theorem okD (μ : Nat → Nat) (b : Nat) : OkD μ b := ⟨trivial, by rintro ⟨i, o, hi, _⟩; simp at hi⟩
/-- What is read at a type are the cells of a datum of ours; 'Q' if what is read is small. -/
def Opens (enc : TypeId × Value → H) (w : World) (μ : Nat → Nat) {α : Type} (e : TypeId) (z : Nat) (f : α → D) (Q : α → Prop) : Prop :=
  ∀ (fuel : Nat) (cs : List Value) (d : DataW H) (ps : List MemPlace), DataW.trod enc Tryz.prog w 0 (fun _ => true) true fuel e cs = some (d, ps) →
    ∃ a : α, cs.length = z ∧ (∀ (j : Nat) (y : D), (f a).cells[j]? = some y → ∃ u, cs[j]? = some u ∧ RepD w (OkD μ) y u) ∧ ((d.weights Tryz.prog e).all (· ≤ reachBytes) = true → Q a)
theorem opens_int : Opens enc w μ 3 1 iD IR := by
  intro fuel cs d ps h
  cases fuel with
  | zero => simp [DataW.trod] at h
  | succ fuel =>
    unfold DataW.trod at h
    rw [Tryz.underlying3] at h
    rcases cs with _ | ⟨v, _ | ⟨u, cs⟩⟩
    · simp at h
    · cases v <;> simp only [reduceCtorEq] at h
      rename_i k n
      split at h
      · rename_i hk
        obtain ⟨rfl, hwf⟩ := hk
        refine ⟨n, rfl, ?_, fun _ => ir_of hwf⟩
        rintro (_ | j) y hy
        · simp [iD_cells] at hy; subst hy; exact ⟨_, rfl, .prim _ rfl⟩
        · simp [iD_cells] at hy
      · cases h
    · simp at h
theorem cells?_get {ad : Addr} {n : Nat} {cs : List Value} (h : w.cells? 0 ad n = some cs) : cs.length = n ∧ ∀ j, j < n → ∃ v, cs[j]? = some v ∧ w.cell? (ad.add j) = some v := by
  unfold World.cells? at h
  rw [if_pos (Nat.zero_le _)] at h
  obtain ⟨h1, h2⟩ := mapM_get h
  rw [List.length_range] at h1
  exact ⟨h1, fun j hj => h2 j j (by simp [hj])⟩
theorem weightsAll_get {e : TypeId} : ∀ {ds : List (DataW H)} {i : Nat} {d : DataW H}, ds[i]? = some d → (DataW.weightsAll Tryz.prog e ds).all (· ≤ reachBytes) = true → (d.weights Tryz.prog e).all (· ≤ reachBytes) = true
  | d0 :: ds, 0, d, hi, h => by
    simp at hi; subst hi
    simp only [DataW.weightsAll, List.all_append, Bool.and_eq_true] at h
    exact h.1
  | d0 :: ds, i + 1, d, hi, h => by
    simp only [DataW.weightsAll, List.all_append, Bool.and_eq_true] at h
    exact weightsAll_get (by simpa using hi) h.2
  | [], i, d, hi, h => by simp at hi
theorem opens_sl {α : Type} {e t : TypeId} {z : Nat} {f : α → D} {Q : α → Prop} (he : Opens enc w μ e z f Q) (hu : Tryz.prog.underlying t = some (.slice e)) (hc : Tryz.prog.cellsOf e = z) (hz : 0 < z) (hby : 1 ≤ Tryz.prog.bytesOf e)
    (hf : ∀ a, (f a).cells.length = z ∧ ∀ y ∈ (f a).cells, y.scalar = true) : Opens enc w μ t 1 (fun l : List α => .sl z (l.map f)) (fun l => l.length < 4611686018427387904 ∧ ∀ a ∈ l, Q a) := by
  intro fuel cs d ps h
  cases fuel with
  | zero => simp [DataW.trod] at h
  | succ fuel =>
    unfold DataW.trod at h
    rw [hu] at h
    rcases cs with _ | ⟨v, _ | ⟨u, cs⟩⟩
    · simp at h
    · cases v <;> simp only [reduceCtorEq] at h
      rename_i A len cap
      have key : ∀ (l : List α) (v : Value), RepD w (OkD μ) (.sl z (l.map f)) v → ∀ (j : Nat) (y : D), (D.sl z (l.map f)).cells[j]? = some y → ∃ u, [v][j]? = some u ∧ RepD w (OkD μ) y u := by
        rintro l v hr (_ | j) y hy
        · simp [D.cells] at hy; subst hy; exact ⟨_, rfl, hr⟩
        · simp [D.cells] at hy
      have hzz : ∀ (l : List α) (i : Nat) (x : D), (l.map f)[i]? = some x → x.cells.length = z ∧ ∀ y ∈ x.cells, y.scalar = true := by
        intro l i x hx
        rw [List.getElem?_map] at hx
        obtain ⟨a, -, rfl⟩ := Option.map_eq_some_iff.1 hx
        exact hf a
      rcases A with _ | ad
      · rcases len with _ | len
        · rcases cap with _ | cap
          · exact ⟨[], rfl, key [] _ (.sl z [] 0 _ 0 default (fun _ _ => undef) rfl (Nat.le_refl _) (fun h => absurd rfl h) hz (hzz []) (fun i x j y hi _ => by simp at hi) (fun i x j y hi _ => by simp at hi)), fun _ => ⟨by simp, by simp⟩⟩
          · simp at h
        · simp at h
      · simp only [hc] at h
        split at h
        · rename_i hle
          obtain ⟨-, hle, -⟩ := hle
          simp only [if_true, Option.bind_eq_some_iff, Option.map_eq_some_iff, Prod.mk.injEq] at h
          obtain ⟨elems, hel, rest, hrest, rfl, -⟩ := h
          obtain ⟨n1, g1⟩ := mapM_get hel
          obtain ⟨n2, g2⟩ := mapM_get hrest
          rw [List.length_range] at n1 n2
          have g : ∀ i : _root_.Fin len, ∃ (p : α × List Value), (∃ x, elems[i.1]? = some x ∧ ((x.1.weights Tryz.prog e).all (· ≤ reachBytes) = true → Q p.1)) ∧ w.cells? 0 (ad.add (i.1 * z)) z = some p.2 ∧ (∀ (j : Nat) (y : D), (f p.1).cells[j]? = some y → ∃ u, p.2[j]? = some u ∧ RepD w (OkD μ) y u) := by
            intro i
            obtain ⟨x, hx, hy⟩ := g1 i.1 i.1 (by simp [i.2])
            obtain ⟨cs, hcs, hh⟩ := Option.bind_eq_some_iff.1 hy
            obtain ⟨a, -, h2, h3⟩ := he fuel cs x.1 x.2 hh
            exact ⟨(a, cs), ⟨x, hx, h3⟩, hcs, h2⟩
          obtain ⟨F, hF⟩ := Classical.axiomOfChoice g
          obtain ⟨a, ea⟩ : ∃ a : _root_.Fin len → α, ∀ i, a i = (F i).1 := ⟨_, fun i => rfl⟩
          obtain ⟨cs, ec⟩ : ∃ cs : _root_.Fin len → List Value, ∀ i, cs i = (F i).2 := ⟨_, fun i => rfl⟩
          simp only [← ea, ← ec] at hF
          clear g
          have hgi : ∀ (i : Nat) (x : D), ((List.ofFn a).map f)[i]? = some x → ∃ hi : i < len, x = f (a ⟨i, hi⟩) := by
            intro i x hx
            rw [List.getElem?_map] at hx
            obtain ⟨b, hb, rfl⟩ := Option.map_eq_some_iff.1 hx
            have hlt : i < len := by simpa using (List.getElem?_eq_some_iff.1 hb).1
            refine ⟨hlt, ?_⟩
            rw [List.getElem?_eq_getElem (by simpa using hlt)] at hb
            simp at hb
            rw [hb]
          have hcc : ∀ (i : Nat) (x : D) (j : Nat) (y : D), ((List.ofFn a).map f)[i]? = some x → x.cells[j]? = some y → ∃ (hi : i < len) (u : Value), (cs ⟨i, hi⟩)[j]? = some u ∧ w.cell? ((ad.add (i * z)).add j) = some u ∧ RepD w (OkD μ) y u := by
            intro i x j y hx hy
            obtain ⟨hi, rfl⟩ := hgi i x hx
            obtain ⟨u, hu1, hu2⟩ := (hF ⟨i, hi⟩).2.2 j y hy
            obtain ⟨k1, k2⟩ := cells?_get (hF ⟨i, hi⟩).2.1
            have hj : j < z := by rw [← k1]; exact (List.getElem?_eq_some_iff.1 hu1).1
            obtain ⟨u', hu', hcell⟩ := k2 j hj
            rw [hu1] at hu'
            cases hu'
            exact ⟨hi, u, hu1, hcell, hu2⟩
          have hsp : 0 < len → ad.spot = none := by
            intro h0
            obtain ⟨y, hy⟩ : ∃ y, (f (a ⟨0, h0⟩)).cells[0]? = some y := ⟨_, List.getElem?_eq_getElem (by rw [(hf _).1]; exact hz)⟩
            obtain ⟨_, u, -, hcell, -⟩ := hcc 0 (f (a ⟨0, h0⟩)) 0 y (by simp [h0]) hy
            simpa [Addr.add] using World.cell?_spot hcell
          refine ⟨List.ofFn a, rfl, key _ _ (.sl z _ len _ cap ad (fun i j => ((if hi : i < len then cs ⟨i, hi⟩ else [])[j]?).getD undef) (by simp) (by simp; omega) ?_ hz (hzz _) ?_ ?_), ?_⟩
          · intro hne
            refine ⟨rfl, okD μ _, ?_⟩
            have h0 : 0 < len := by
              rcases Nat.eq_zero_or_pos len with h0 | h0
              · subst h0; simp at hne
              · exact h0
            exact hsp h0
          · intro i x j y hx hy
            obtain ⟨hi, u, h1, h2, -⟩ := hcc i x j y hx hy
            rw [add_add _ _ _ (hsp (by omega))] at h2
            rw [h2]
            simp [hi, h1]
          · intro i x j y hx hy
            obtain ⟨hi, u, h1, h2, h3⟩ := hcc i x j y hx hy
            simpa [hi, h1] using h3
          · intro hw
            simp only [DataW.weights, hu, List.all_cons, List.all_append, Bool.and_eq_true, decide_eq_true_eq, List.length_map] at hw
            obtain ⟨w1, w2, -⟩ := hw
            have hr : reachBytes < 2 ^ 47 := reachBytes_lt
            have hll : (elems.length + rest.length) * 1 ≤ reachBytes := Nat.le_trans (Nat.mul_le_mul_left _ hby) w1
            refine ⟨by simp; omega, ?_⟩
            intro b hb
            obtain ⟨i, rfl⟩ := List.mem_ofFn.1 hb
            obtain ⟨x, hx, hq⟩ := (hF i).1
            exact hq (weightsAll_get (ds := elems.map (·.1)) (i := i.1) (by simp [hx]) w2)
        · cases h
    · simp at h
theorem take_cell {cs : List Value} {k n : Nat} {u : Value} (h : ((cs.drop k).take n)[0]? = some u) (hn : n = 1) : cs[k]? = some u := by
  subst hn
  simpa using h
theorem struct_get {fuel : Nat} {t : TypeId} {fs : Array Field} {cs : List Value} {d : DataW H} {ps : List MemPlace} (hu : Tryz.prog.underlying t = some (.struct fs)) (h : DataW.trod enc Tryz.prog w 0 (fun _ => true) true fuel t cs = some (d, ps)) :
    ∃ (fuel' : Nat) (xs : List (DataW H × List MemPlace)), cs.length = Tryz.prog.cellsOf t ∧ d = .agg (xs.map (·.1)) ∧
      ∀ (i : Nat) (fl : Field), fs.toList[i]? = some fl → ∃ x, xs[i]? = some x ∧ DataW.trod enc Tryz.prog w 0 (fun _ => true) true fuel' fl.type ((cs.drop fl.offset).take (Tryz.prog.cellsOf fl.type)) = some (x.1, x.2) ∧
        ((d.weights Tryz.prog t).all (· ≤ reachBytes) = true → (x.1.weights Tryz.prog fl.type).all (· ≤ reachBytes) = true) := by
  cases fuel with
  | zero => simp [DataW.trod] at h
  | succ fuel =>
    unfold DataW.trod at h
    rw [hu] at h
    simp only at h
    split at h
    · rename_i hl
      obtain ⟨xs, hxs, e⟩ := Option.map_eq_some_iff.1 h
      simp only [Prod.mk.injEq] at e
      obtain ⟨rfl, -⟩ := e
      obtain ⟨n1, g1⟩ := mapM_get hxs
      refine ⟨fuel, xs, hl, rfl, fun i fl hi => ?_⟩
      obtain ⟨x, hx, hy⟩ := g1 i fl hi
      refine ⟨x, hx, hy, fun hw => List.all_eq_true.2 fun n hn => List.all_eq_true.1 hw n ?_⟩
      simp only [DataW.weights, hu]
      exact DataW.weights_mem_each (j := i) (by simp [hi]) (by simp [hx]) n hn
    · cases h
theorem opens_bool : Opens enc w μ 4 1 (fun b : Bool => .prim (.bool b)) (fun _ => True) := by
  intro fuel cs d ps h
  cases fuel with
  | zero => simp [DataW.trod] at h
  | succ fuel =>
    unfold DataW.trod at h
    rw [Tryz.underlying4] at h
    rcases cs with _ | ⟨v, _ | ⟨u, cs⟩⟩
    · simp at h
    · cases v <;> simp only [reduceCtorEq] at h
      rename_i b
      refine ⟨b, rfl, ?_, fun _ => trivial⟩
      rintro (_ | j) y hy
      · cases hy; exact ⟨_, rfl, .prim _ rfl⟩
      · cases hy
    · simp at h
theorem opens_ints : Opens enc w μ 26 1 (fun l : List Int => .sl 1 (l.map iD)) (fun l => l.length < 4611686018427387904 ∧ ∀ a ∈ l, IR a) :=
  opens_sl opens_int Tryz.underlying26 (by kernel_rfl) (by decide) (Nat.le_trans (by decide) (Nat.le_of_eq (by kernel_rfl : (8 : Nat) = _))) (fun a => ⟨rfl, by simp [iD_cells]; rfl⟩)
structure Rc.small (r : Rc) : Prop where
  kind : IR r.kind
  tx : IR r.tx
  page : IR r.page
  slot : IR r.slot
  old : IR r.old
  new : IR r.new
  prev : IR r.prev
  next : IR r.next
structure Pg.small (p : Pg) : Prop where
  lsn : IR p.lsn
  owner : IR p.owner
  len : p.vals.length < 4611686018427387904
  vals : ∀ a ∈ p.vals, IR a
theorem opens_rec : Opens enc w μ 109 8 rD Rc.small := by
  intro fuel cs d ps h
  cases fuel with
  | zero => simp [DataW.trod] at h
  | succ fuel =>
    obtain ⟨fuel', xs, hcl, hd, hf⟩ := struct_get Tryz.underlying109 h
    obtain ⟨x0, hx0, ht0, hw0⟩ := hf 0 _ rfl
    obtain ⟨a0, hl0, hr0, hq0⟩ := opens_int (μ := μ) _ _ _ _ ht0
    obtain ⟨u0, hu0, hR0⟩ := hr0 0 _ rfl
    replace hu0 := take_cell hu0 (by kernel_rfl)
    obtain ⟨x1, hx1, ht1, hw1⟩ := hf 1 _ rfl
    obtain ⟨a1, hl1, hr1, hq1⟩ := opens_int (μ := μ) _ _ _ _ ht1
    obtain ⟨u1, hu1, hR1⟩ := hr1 0 _ rfl
    replace hu1 := take_cell hu1 (by kernel_rfl)
    obtain ⟨x2, hx2, ht2, hw2⟩ := hf 2 _ rfl
    obtain ⟨a2, hl2, hr2, hq2⟩ := opens_int (μ := μ) _ _ _ _ ht2
    obtain ⟨u2, hu2, hR2⟩ := hr2 0 _ rfl
    replace hu2 := take_cell hu2 (by kernel_rfl)
    obtain ⟨x3, hx3, ht3, hw3⟩ := hf 3 _ rfl
    obtain ⟨a3, hl3, hr3, hq3⟩ := opens_int (μ := μ) _ _ _ _ ht3
    obtain ⟨u3, hu3, hR3⟩ := hr3 0 _ rfl
    replace hu3 := take_cell hu3 (by kernel_rfl)
    obtain ⟨x4, hx4, ht4, hw4⟩ := hf 4 _ rfl
    obtain ⟨a4, hl4, hr4, hq4⟩ := opens_int (μ := μ) _ _ _ _ ht4
    obtain ⟨u4, hu4, hR4⟩ := hr4 0 _ rfl
    replace hu4 := take_cell hu4 (by kernel_rfl)
    obtain ⟨x5, hx5, ht5, hw5⟩ := hf 5 _ rfl
    obtain ⟨a5, hl5, hr5, hq5⟩ := opens_int (μ := μ) _ _ _ _ ht5
    obtain ⟨u5, hu5, hR5⟩ := hr5 0 _ rfl
    replace hu5 := take_cell hu5 (by kernel_rfl)
    obtain ⟨x6, hx6, ht6, hw6⟩ := hf 6 _ rfl
    obtain ⟨a6, hl6, hr6, hq6⟩ := opens_int (μ := μ) _ _ _ _ ht6
    obtain ⟨u6, hu6, hR6⟩ := hr6 0 _ rfl
    replace hu6 := take_cell hu6 (by kernel_rfl)
    obtain ⟨x7, hx7, ht7, hw7⟩ := hf 7 _ rfl
    obtain ⟨a7, hl7, hr7, hq7⟩ := opens_int (μ := μ) _ _ _ _ ht7
    obtain ⟨u7, hu7, hR7⟩ := hr7 0 _ rfl
    replace hu7 := take_cell hu7 (by kernel_rfl)
    refine ⟨⟨a0, a1, a2, a3, a4, a5, a6, a7⟩, hcl.trans (by kernel_rfl), ?_, fun hw => ⟨hq0 (hw0 hw), hq1 (hw1 hw), hq2 (hw2 hw), hq3 (hw3 hw), hq4 (hw4 hw), hq5 (hw5 hw), hq6 (hw6 hw), hq7 (hw7 hw)⟩⟩
    rintro (_ | _ | _ | _ | _ | _ | _ | _ | j) y hy
    · cases hy; exact ⟨u0, hu0, hR0⟩
    · cases hy; exact ⟨u1, hu1, hR1⟩
    · cases hy; exact ⟨u2, hu2, hR2⟩
    · cases hy; exact ⟨u3, hu3, hR3⟩
    · cases hy; exact ⟨u4, hu4, hR4⟩
    · cases hy; exact ⟨u5, hu5, hR5⟩
    · cases hy; exact ⟨u6, hu6, hR6⟩
    · cases hy; exact ⟨u7, hu7, hR7⟩
    · cases hy
theorem opens_page : Opens enc w μ 104 3 pD Pg.small := by
  intro fuel cs d ps h
  cases fuel with
  | zero => simp [DataW.trod] at h
  | succ fuel =>
    obtain ⟨fuel', xs, hcl, hd, hf⟩ := struct_get Tryz.underlying104 h
    obtain ⟨x0, hx0, ht0, hw0⟩ := hf 0 _ rfl
    obtain ⟨a0, hl0, hr0, hq0⟩ := opens_int (μ := μ) _ _ _ _ ht0
    obtain ⟨u0, hu0, hR0⟩ := hr0 0 _ rfl
    replace hu0 := take_cell hu0 (by kernel_rfl)
    obtain ⟨x1, hx1, ht1, hw1⟩ := hf 1 _ rfl
    obtain ⟨a1, hl1, hr1, hq1⟩ := opens_int (μ := μ) _ _ _ _ ht1
    obtain ⟨u1, hu1, hR1⟩ := hr1 0 _ rfl
    replace hu1 := take_cell hu1 (by kernel_rfl)
    obtain ⟨x2, hx2, ht2, hw2⟩ := hf 2 _ rfl
    obtain ⟨a2, hl2, hr2, hq2⟩ := opens_ints (μ := μ) _ _ _ _ ht2
    obtain ⟨u2, hu2, hR2⟩ := hr2 0 _ rfl
    replace hu2 := take_cell hu2 (by kernel_rfl)
    refine ⟨⟨a0, a1, a2⟩, hcl.trans (by kernel_rfl), ?_, fun hw => ⟨hq0 (hw0 hw), hq1 (hw1 hw), (hq2 (hw2 hw)).1, (hq2 (hw2 hw)).2⟩⟩
    rintro (_ | _ | _ | j) y hy
    · cases hy; exact ⟨u0, hu0, hR0⟩
    · cases hy; exact ⟨u1, hu1, hR1⟩
    · cases hy; exact ⟨u2, hu2, hR2⟩
    · cases hy
theorem opens_pages : Opens enc w μ 22 1 (fun l : List Pg => .sl 3 (l.map pD)) (fun l => l.length < 4611686018427387904 ∧ ∀ a ∈ l, a.small) :=
  opens_sl opens_page Tryz.underlying22 (by kernel_rfl) (by decide) (Nat.le_trans (by decide) (Nat.le_of_eq (by kernel_rfl : (40 : Nat) = _))) (fun a => ⟨rfl, by simp [pD_cells, iD, D.scalar]⟩)
theorem opens_recs : Opens enc w μ 23 1 (fun l : List Rc => .sl 8 (l.map rD)) (fun l => l.length < 4611686018427387904 ∧ ∀ a ∈ l, a.small) :=
  opens_sl opens_rec Tryz.underlying23 (by kernel_rfl) (by decide) (Nat.le_trans (by decide) (Nat.le_of_eq (by kernel_rfl : (64 : Nat) = _))) (fun a => ⟨rfl, by simp [rD_cells, iD, D.scalar]⟩)
def eD (e : Eng) : D := .agg [.sl 3 (e.disk.map pD), .sl 3 (e.mem.map pD), .sl 8 (e.log.map rD), iD e.safe, .prim (.bool e.down)]
/-- What an engine that is read is like. -/
structure Eng.rd (e : Eng) : Prop where
  disk : e.disk.length < 4611686018427387904
  mem : e.mem.length < 4611686018427387904
  log : e.log.length < 4611686018427387904
  dp : ∀ p ∈ e.disk, p.small
  mp : ∀ p ∈ e.mem, p.small
  lr : ∀ r ∈ e.log, r.small
  safe : IR e.safe
theorem opens_eng : Opens enc w μ 25 5 eD Eng.rd := by
  intro fuel cs d ps h
  cases fuel with
  | zero => simp [DataW.trod] at h
  | succ fuel =>
    obtain ⟨fuel', xs, hcl, hd, hf⟩ := struct_get Tryz.underlying25 h
    obtain ⟨x0, hx0, ht0, hw0⟩ := hf 0 _ rfl
    obtain ⟨a0, hl0, hr0, hq0⟩ := opens_pages (μ := μ) _ _ _ _ ht0
    obtain ⟨u0, hu0, hR0⟩ := hr0 0 _ rfl
    replace hu0 := take_cell hu0 (by kernel_rfl)
    obtain ⟨x1, hx1, ht1, hw1⟩ := hf 1 _ rfl
    obtain ⟨a1, hl1, hr1, hq1⟩ := opens_pages (μ := μ) _ _ _ _ ht1
    obtain ⟨u1, hu1, hR1⟩ := hr1 0 _ rfl
    replace hu1 := take_cell hu1 (by kernel_rfl)
    obtain ⟨x2, hx2, ht2, hw2⟩ := hf 2 _ rfl
    obtain ⟨a2, hl2, hr2, hq2⟩ := opens_recs (μ := μ) _ _ _ _ ht2
    obtain ⟨u2, hu2, hR2⟩ := hr2 0 _ rfl
    replace hu2 := take_cell hu2 (by kernel_rfl)
    obtain ⟨x3, hx3, ht3, hw3⟩ := hf 3 _ rfl
    obtain ⟨a3, hl3, hr3, hq3⟩ := opens_int (μ := μ) _ _ _ _ ht3
    obtain ⟨u3, hu3, hR3⟩ := hr3 0 _ rfl
    replace hu3 := take_cell hu3 (by kernel_rfl)
    obtain ⟨x4, hx4, ht4, hw4⟩ := hf 4 _ rfl
    obtain ⟨a4, hl4, hr4, hq4⟩ := opens_bool (μ := μ) _ _ _ _ ht4
    obtain ⟨u4, hu4, hR4⟩ := hr4 0 _ rfl
    replace hu4 := take_cell hu4 (by kernel_rfl)
    refine ⟨⟨a0, a1, a2, a3, a4⟩, hcl.trans (by kernel_rfl), ?_, fun hw => ⟨(hq0 (hw0 hw)).1, (hq1 (hw1 hw)).1, (hq2 (hw2 hw)).1, (hq0 (hw0 hw)).2, (hq1 (hw1 hw)).2, (hq2 (hw2 hw)).2, hq3 (hw3 hw)⟩⟩
    rintro (_ | _ | _ | _ | _ | j) y hy
    · cases hy; exact ⟨u0, hu0, hR0⟩
    · cases hy; exact ⟨u1, hu1, hR1⟩
    · cases hy; exact ⟨u2, hu2, hR2⟩
    · cases hy; exact ⟨u3, hu3, hR3⟩
    · cases hy; exact ⟨u4, hu4, hR4⟩
    · cases hy
end
end Go.Proofs.YtfcnajhanjhonaaGreat.Am
end
section
set_option linter.unusedVariables false
set_option linter.unusedSimpArgs false
set_option maxRecDepth 100000
set_option linter.constructorNameAsVariable false
namespace Go.Proofs.YtfcnajhanjhonaaGreat.Am
open Go Go.RowKit Go.Proofs Go.ChangeShapes Go.WideShapes
/-- A law over data: it returns true, and below the heap nothing has turned. -/
theorem calls_of_law {f : FuncId} {args : List AV} (h : Fn1 Tryz.prog f args (Bo true)) (w : World) (vs : Array Value) (hl : vs.size = args.length) (hr : ∀ (j : Nat) (x : AV), args[j]? = some x → Rep okT w (fun i => i) [] x (vs.getD j undef)) :
    Calls Tryz.prog f vs w fun e w' => e = .returned (.bool true) ∧ Below w.heap.size w w' := by
  refine (h.2 okT (fun i => i) w vs (fun _ _ => trivial) ⟨by simp, by simp, by simp⟩ hl hr).mono ?_
  rintro e w' ⟨r', v, S', mv, μ', rfl, ⟨⟨rfl, rfl⟩, rfl⟩, hrs, hrep, hmod, _⟩
  cases hrep
  exact ⟨rfl, hmod.os, hmod.tape, hmod.output, hmod.size, fun k hk => hmod.keep k hk (by rintro ⟨i, o, hi, _⟩; simp at hi)⟩
section
variable {H : Type} {enc : TypeId × Value → H} {w : World}
theorem rep_of_d {μ : Nat → Nat} {x : D} {v : Value} (h : RepD w (OkD μ) x v) (hs : x.scalar = true) : Rep okT w μ [] x.av0 v := by
  cases x with
  | prim u => cases h; exact .prim _ (by assumption)
  | agg xs => simp [D.scalar] at hs
  | sl z xs => exact .sl z xs v h
/-- An engine that is an argument. -/
theorem open_eng {r : Reach} {b0 : Nat} {v : Value} {d : DataW H} {ps : List MemPlace} (hval : Value.okWide Tryz.prog w r b0 25 v) (hd : DataW.Trod enc Tryz.prog w 0 (fun _ => true) true 25 v d ps)
    (hw : (d.weights Tryz.prog 25).all (· ≤ reachBytes) = true) : ∃ e : Eng, e.rd ∧ Rep okT w (fun i => i) [] (eA e) v := by
  obtain ⟨cs, rfl, hsz⟩ := okWide_struct Tryz.underlying25 hval
  obtain ⟨fuel, hf⟩ := hd
  obtain ⟨e, hl, hr, hq⟩ := opens_eng (μ := fun i => i) _ _ _ _ hf
  refine ⟨e, hq hw, ?_⟩
  obtain ⟨cs⟩ := cs
  refine .agg _ cs (by simpa [Value.cells] using hl) (by simp [AV.scalar]) ?_
  intro j x v hj hv
  have key : ∀ y : D, (eD e).cells[j]? = some y → y.scalar = true → y.av0 = x → Rep okT w (fun i => i) [] x v := by
    intro y hy hs e1
    obtain ⟨u, hu, hR⟩ := hr j y hy
    simp only [Value.cells] at hu
    rw [hv] at hu
    cases hu
    rw [← e1]
    exact rep_of_d hR hs
  rcases j with _ | _ | _ | _ | _ | j
  all_goals first | (cases hj; exact key _ rfl rfl rfl) | (cases hj)
theorem rep_int {μ : Nat → Nat} (n : Int) : Rep okT w μ [] (I n) (.int .i64 n) := .prim _ rfl
end
theorem laidOut : laidOutB Tryz.prog = true := by kernel_rfl
theorem ownK : ownKnob Tryz.prog.godebug = none := by kernel_rfl
end Go.Proofs.YtfcnajhanjhonaaGreat.Am
end
section
set_option linter.unusedVariables false
set_option linter.unusedSimpArgs false
set_option maxRecDepth 100000
set_option maxHeartbeats 8000000
namespace Go.Proofs.YtfcnajhanjhonaaGreat.Am
open Go Go.RowKit Go.Proofs
attribute [local go_sem_proc] Nat.reduceAdd Nat.reduceSub Nat.reduceMul Nat.reduceLT Nat.reduceLeDiff Nat.reduceEqDiff Int.reduceBEq Int.reduceBNe Int.reduceNeg Int.reduceSub Int.reduceLE Int.reduceLT
attribute [local go_sem_proc ↓] reduceIte
attribute [local congr] opsP_congr codeP_congr AWP_congr afterR_congr preP_congr afterPre_congr gPre_congr gOps_congr condP_congr stepE_congr
attribute [local go_sem] ty_int ty_bool ty_str ty_u8 ty_ints ty_bytes ty_page ty_pages ty_lpage ty_lpages ty_rec ty_recs ty_lrec ty_lrecs ty_eng ty_leng
attribute [local go_sem] true_and and_true beq_true' beq_false' toNat_cast Int.natCast_nonneg Bool.not_not Bool.not_true Bool.not_false decide_true decide_false Bool.or_false Bool.false_or Bool.or_true Bool.true_or Bool.and_false Bool.false_and Nat.zero_add Int.toNat_of_nonneg wrap_succ wrap_m1 wrap_nat succ_m1 cast0 succ_pos' succ_ne' succ_bne' ge_iff_le gt_iff_lt if_true if_false
section
theorem ty_rd : tiOf Tryz.prog 114 = some ⟨true, [.slice none 0 0, .int .i64 0], 32, .struct [0, 1]⟩ := by kernel_rfl
theorem ty_ev : tiOf Tryz.prog 155 = some ⟨true, [.int .i64 0, .int .i64 0, .int .i64 0, .int .i64 0, .int .i64 0, .slice none 0 0], 64, .struct [0, 1, 2, 3, 4, 5]⟩ := by kernel_rfl
attribute [local go_sem] ty_rd
def bD (n : Int) : D := .prim (.int .u8 n)
@[go_sem] theorem bD_av0 (n : Int) : (bD n).av0 = .prim (.int .u8 n) := rfl
@[go_sem] theorem bD_cells (n : Int) : (bD n).cells = [bD n] := rfl
def Byt (l : List Int) : Prop := ∀ k : Nat, k < l.length → 0 ≤ at' l (k : Int) ∧ at' l (k : Int) < 256
end
section
attribute [local go_sem] slt_r slt_I slt_p
theorem hm2c {mv : List Nat} (m0 : mv.contains 0 = false) (m1 : mv.contains 1 = false) : ∀ i, i < 2 → ([] : List Nat).contains i = false → [0, 1][i]? = some i ∧ mv.contains i = false := by
  intro i hi _
  have hi2 : i = 0 ∨ i = 1 := by omega
  rcases hi2 with rfl | rfl
  · exact ⟨rfl, m0⟩
  · exact ⟨rfl, m1⟩
theorem CopyPages5 (ps : List Pg) (h : Sz ps) : Fn Tryz.prog 96 [pgs ps] (fun r S => r = .own 0 3 0 5 ∧ S = [some ⟨3, ps.map pA⟩]) := by
  have hp5 := h.len
  have hcp := l11CopyPages_own ps (by omega) (fun p hm => by obtain ⟨k, hk, rfl⟩ := mem_at hm; rw [h.sz k (by omega)]; omega)
  rw [hp5] at hcp
  exact hcp
theorem l11Copy_c (e : Eng) (hd : Sz e.disk) (hm : Sz e.mem) (hl : e.log.length < 1000000) : Fn Tryz.prog 37 [eA e] (fun r S => r = eX 0 1 e ∧ S = sO e) := by
  refine fn_of Tryz.func37 rfl rfl ?_
  simp -implicitDefEqProofs only [go_sem, Tryz.f37]
  (repeat' (first | ((with_reducible first | refine gon ?_ ?_ | refine gos ?_ ?_ | refine cdn ?_ ?_ | refine cds ?_ ?_ | refine gpn ?_ ?_ | refine gps ?_ ?_) <;> intro h <;> (try simp only [dt, df, gi, gt] at h) <;> try simp -implicitDefEqProofs only [go_sem, *]) | ((with_reducible refine And.intro ?_ ?_); (· first | omega | (simp only [List.length_take]; omega)); try simp -implicitDefEqProofs only [go_sem, *]) | first | ((with_reducible refine cp_draw2 (id := 1) 14 2 mixed ?_ ?_ ?_ ?_); (· decide +kernel); (· first | (simp only [List.all_cons, List.all_nil, List.length_cons, List.length_nil, Nat.reduceAdd, Nat.reduceLT, decide_true, Bool.and_true, Bool.and_self]; done) | rfl); (· rfl); try simp -implicitDefEqProofs only [go_sem, List.append_nil, *]) | ((with_reducible refine pre_made (CopyPages5 e.disk hd) ?_ ?_ ?_ ?_ ?_ ?_); (· rfl); (· intro n; simp only [go_sem, List.map_cons, List.map_nil, Nat.zero_add]); (· intro n; simp only [go_sem]); (· rfl); (· first | exact slt_I | exact slt_p | exact slt_r | rfl); try simp -implicitDefEqProofs only [go_sem, List.map_cons, List.map_nil, *]) | ((with_reducible refine pre_made (CopyPages5 e.mem hm) ?_ ?_ ?_ ?_ ?_ ?_); (· rfl); (· intro n; simp only [go_sem, List.map_cons, List.map_nil, Nat.zero_add]); (· intro n; simp only [go_sem]); (· rfl); (· first | exact slt_I | exact slt_p | exact slt_r | rfl); try simp -implicitDefEqProofs only [go_sem, List.map_cons, List.map_nil, *]) | ((with_reducible refine exp_end ?_ ?_); (· decide +kernel); try simp -implicitDefEqProofs only [go_sem, *]) | ((with_reducible refine exp_one 14 ?_ ?_); (· decide +kernel); try simp -implicitDefEqProofs only [go_sem, *]) | ((with_reducible refine exp_one 15 ?_ ?_); (· decide +kernel); try simp -implicitDefEqProofs only [go_sem, *])))
  refine fin_drop [2, 3] [] (by simp) rfl (by decide) (keep2 rfl rfl (a2_p _ _) (a2_p _ _)) (fun i hi => absurd hi (Nat.not_lt_zero _)) (.of _ _ (rd_eX (k := 5) (e := e) rfl rfl (by decide) (by decide) rfl rfl)) ⟨⟨rfl, rfl⟩, rfl⟩
theorem l12Add_c (e : Eng) (r : Rc) (hi : Inv e) (hc : e.can r) : AFn1 Tryz.prog 95 [eX 0 1 e, rA r] (sO e) (.tup [eX 0 1 (e.add r).1, Bo (e.add r).2]) (sO (e.add r).1) [] := by
  have hlen := hi.len
  have hd5 := hi.disk.len
  have hm5 := hi.mem.len
  have hlb : e.log.length < 4611686018427387904 := by omega
  obtain ⟨m, hm, hp⟩ := Rc.ok_page hc.ok
  have hp' : r.page = (m : Int) := hp
  have hsz : (at' e.mem r.page).vals.length = 3 := by rw [hp']; exact hi.mem.sz.sz m (by omega)
  have h0 : 0 ≤ r.page := by omega
  have h4 : r.page ≤ 4 := by omega
  clear hp hp' hm
  have hn : Fn1 Tryz.prog 65 [recs (e.log ++ [⟨r.kind, r.tx, r.page, r.slot, r.old, r.new, lastN e.log r.tx, r.next⟩])] (I (needTo (e.alog r) 3)) := l11Need_fn (e.alog r) (can_wf hi hc)
  have hnb := needTo_le (e.alog r) (can_wf hi hc) 3
  have hdo := l2Do_fn (at' e.mem r.page) ⟨r.kind, r.tx, r.page, r.slot, r.old, r.new, lastN e.log r.tx, r.next⟩ ((e.log.length + 1 : Nat) : Int) hsz (Rc.ok_slot hc.ok).2
  have hl3 := l3Last_fn e.log r.tx hlb
  have hch := l2Changes_fn r.kind
  have hwr : IntKind.i64.wrap ((((e.log.length + 1 : Nat) : Int)) + (needTo (e.alog r) 3 : Int)) = ((e.log.length + 1 + needTo (e.alog r) 3 : Nat) : Int) := by rw [wrap_ok (by omega) (by omega)]; omega
  have hfd : e.fits r = decide (e.log.length + 1 + needTo (e.alog r) 3 ≤ 150) := by unfold Eng.fits; rw [alog_len]
  refine afn1_of Tryz.func95 rfl rfl ?_
  by_cases hf : e.fits r = true
  · have e1 : e.add r = (e.added r, true) := if_pos hf
    rw [e1]
    have hgt : ¬ (150 < ((e.log.length + 1 + needTo (e.alog r) 3 : Nat) : Int)) := by rw [hfd, decide_eq_true_eq] at hf; omega
    clear hfd
    simp -implicitDefEqProofs only [go_sem, Tryz.f95]
    (repeat' (first | ((with_reducible first | refine gon ?_ ?_ | refine gos ?_ ?_ | refine cdn ?_ ?_ | refine cds ?_ ?_ | refine gpn ?_ ?_ | refine gps ?_ ?_) <;> intro h <;> (try simp only [dt, df, gi, gt] at h) <;> try simp -implicitDefEqProofs only [go_sem, *]) | ((with_reducible refine And.intro ?_ ?_); (· first | omega | (simp only [List.length_take]; omega)); try simp -implicitDefEqProofs only [go_sem, *]) | first | ((with_reducible refine enter_pu (hl3) ?_ ?_ ?_); (· rfl); (· rfl); try simp -implicitDefEqProofs only [go_sem, *]) | ((with_reducible refine cp_draw2 (id := 2) 6 2 mixed ?_ ?_ ?_ ?_); (· decide +kernel); (· first | (simp only [List.all_cons, List.all_nil, List.length_cons, List.length_nil, Nat.reduceAdd, Nat.reduceLT, decide_true, Bool.and_true, Bool.and_self]; done) | rfl); (· rfl); try simp -implicitDefEqProofs only [go_sem, List.append_nil, *]) | ((with_reducible refine exp_one 6 ?_ ?_); (· decide +kernel); try simp -implicitDefEqProofs only [go_sem, *]) | ((with_reducible refine exp_one 7 ?_ ?_); (· decide +kernel); try simp -implicitDefEqProofs only [go_sem, *]) | ((with_reducible refine exp_end ?_ ?_); (· decide +kernel); try simp -implicitDefEqProofs only [go_sem, *]) | ((with_reducible refine enter_own (hn) ?_ rfl rfl ?_); (· repeat (first | exact All2.nil | (refine All2.cons _ _ _ _ ?_ ?_; (· first | exact arg_same rfl | exact arg_eX5 rfl rfl (by first | omega | (simp; omega)) (by first | omega | (simp; omega)) | exact arg_eX rfl rfl (by first | omega | (simp; omega)) (by first | omega | (simp; omega)) | exact .of1 _ _ (.of0 _ _ (arg0_r rfl (by simp))))))); try simp -implicitDefEqProofs only [go_sem, *]) | ((with_reducible refine enter_pu (hch) ?_ ?_ ?_); (· rfl); (· rfl); try simp -implicitDefEqProofs only [go_sem, *]) | ((with_reducible refine cp_draw (id := 7) 14 mixed ?_ ?_ ?_); (· decide +kernel); (· first | (simp only [List.all_cons, List.all_nil, List.length_cons, List.length_nil, Nat.reduceAdd, Nat.reduceLT, decide_true, Bool.and_true, Bool.and_self]; done) | rfl); try simp -implicitDefEqProofs only [go_sem, *]) | ((with_reducible refine pre_enter _ (det_pu (hdo) ?_ ?_) ?_ ?_); (· rfl); (· rfl); (· rfl); try simp -implicitDefEqProofs only [go_sem, *])))
    · have e2 : e.added r = ⟨e.disk, e.mem.set r.page.toNat (doP (at' e.mem r.page) ⟨r.kind, r.tx, r.page, r.slot, r.old, r.new, lastN e.log r.tx, r.next⟩ ((e.log.length + 1 : Nat) : Int)), e.alog r, e.safe, e.down⟩ := by
        unfold Eng.added Eng.amem
        rw [if_pos h, alog_len]
        rfl
      rw [e2]
      exact fin_drop [0, 1] [] (by simp) rfl (by decide) (keep2 rfl rfl (a2_p _ _) (a2_p _ _)) (hd2 rfl rfl (ne5 hd5) (ne5 (by simp [hm5])) rfl rfl)
        (.tup _ _ (.cons _ _ _ _ (rd_eX (k := 6) (e := ⟨e.disk, e.mem.set r.page.toNat (doP (at' e.mem r.page) ⟨r.kind, r.tx, r.page, r.slot, r.old, r.new, lastN e.log r.tx, r.next⟩ ((e.log.length + 1 : Nat) : Int)), e.alog r, e.safe, e.down⟩) rfl rfl (by decide) (by decide) rfl (alog_len e r).symm) (.cons _ _ _ _ rd_B .nil))) ⟨rfl, rfl, rfl⟩
    · have e2 : e.added r = ⟨e.disk, e.mem, e.alog r, e.safe, e.down⟩ := by
        unfold Eng.added Eng.amem
        rw [if_neg (by simpa using h)]
      rw [e2]
      exact fin_drop [0, 1] [] (by simp) rfl (by decide) (keep2 rfl rfl (a2_p _ _) (a2_p _ _)) (hd2 rfl rfl (ne5 hd5) (ne5 hm5) rfl rfl)
        (.tup _ _ (.cons _ _ _ _ (rd_eX (k := 6) (e := ⟨e.disk, e.mem, e.alog r, e.safe, e.down⟩) rfl rfl (by decide) (by decide) rfl (alog_len e r).symm) (.cons _ _ _ _ rd_B .nil))) ⟨rfl, rfl, rfl⟩
  · have e1 : e.add r = (e, false) := if_neg hf
    rw [e1]
    have hgt : 150 < ((e.log.length + 1 + needTo (e.alog r) 3 : Nat) : Int) := by rw [hfd, decide_eq_true_eq] at hf; omega
    clear hfd
    simp -implicitDefEqProofs only [go_sem, Tryz.f95]
    (repeat' (first | ((with_reducible first | refine gon ?_ ?_ | refine gos ?_ ?_ | refine cdn ?_ ?_ | refine cds ?_ ?_ | refine gpn ?_ ?_ | refine gps ?_ ?_) <;> intro h <;> (try simp only [dt, df, gi, gt] at h) <;> try simp -implicitDefEqProofs only [go_sem, *]) | ((with_reducible refine And.intro ?_ ?_); (· first | omega | (simp only [List.length_take]; omega)); try simp -implicitDefEqProofs only [go_sem, *]) | first | ((with_reducible refine enter_pu (hl3) ?_ ?_ ?_); (· rfl); (· rfl); try simp -implicitDefEqProofs only [go_sem, *]) | ((with_reducible refine cp_draw2 (id := 2) 6 2 mixed ?_ ?_ ?_ ?_); (· decide +kernel); (· first | (simp only [List.all_cons, List.all_nil, List.length_cons, List.length_nil, Nat.reduceAdd, Nat.reduceLT, decide_true, Bool.and_true, Bool.and_self]; done) | rfl); (· rfl); try simp -implicitDefEqProofs only [go_sem, List.append_nil, *]) | ((with_reducible refine exp_one 6 ?_ ?_); (· decide +kernel); try simp -implicitDefEqProofs only [go_sem, *]) | ((with_reducible refine exp_one 7 ?_ ?_); (· decide +kernel); try simp -implicitDefEqProofs only [go_sem, *]) | ((with_reducible refine exp_end ?_ ?_); (· decide +kernel); try simp -implicitDefEqProofs only [go_sem, *]) | ((with_reducible refine enter_own (hn) ?_ rfl rfl ?_); (· repeat (first | exact All2.nil | (refine All2.cons _ _ _ _ ?_ ?_; (· first | exact arg_same rfl | exact arg_eX5 rfl rfl (by first | omega | (simp; omega)) (by first | omega | (simp; omega)) | exact arg_eX rfl rfl (by first | omega | (simp; omega)) (by first | omega | (simp; omega)) | exact .of1 _ _ (.of0 _ _ (arg0_r rfl (by simp))))))); try simp -implicitDefEqProofs only [go_sem, *])))
    exact fin_move [0, 1] [] (by simp) rfl (by decide) (keep2 rfl rfl (a2_p _ _) (a2_p _ _)) (hm2c rfl rfl) (rnT_eXb rfl rfl) ⟨rfl, rfl, rfl⟩
end
section
attribute [local go_sem] slt_r slt_I slt_p
theorem l1Empty_fn (p : Pg) (hb : p.vals.length < 4611686018427387904) : Fn1 Tryz.prog 81 [pA p] (Bo (emptyB p)) := by
  refine fn1_of Tryz.func81 rfl rfl ?_
  simp -implicitDefEqProofs only [go_sem, Tryz.f81]
  refine cp_loop (fun i : Nat => ⟨(pA p :: .ref 0 3 0 0 :: Bo false :: I (i : Int) :: .any :: .any :: .any :: .any :: .any :: .any :: .any :: .any :: .any :: .any :: .any :: .any :: .any :: []), [some ⟨3, [pA p]⟩], []⟩) (fun i => i ≤ p.vals.length ∧ allFrom (fun k => decide (at' p.vals (k : Int) = 0)) i p.vals.length = emptyB p) (fun i => p.vals.length - i) 0 ?_ ?_ ?_
  · exact ⟨by omega, rfl⟩
  · refine wk_tm ?_; repeat (first | exact WL.nil | (with_reducible refine WL.any _ _ _ ?_) | (with_reducible refine WL.same _ _ _ ?_) | (refine WL.eq _ _ _ _ rfl ?_))
  · rintro i ⟨hi, hg⟩
    have hbi : i < 4611686018427387904 := by omega
    simp -implicitDefEqProofs only [go_sem, true_and]
    (repeat' (first | ((with_reducible first | refine gon ?_ ?_ | refine gos ?_ ?_ | refine cdn ?_ ?_ | refine cds ?_ ?_ | refine gpn ?_ ?_ | refine gps ?_ ?_) <;> intro h <;> (try simp only [dt, df, gi, gt] at h) <;> try simp -implicitDefEqProofs only [go_sem, *]) | ((with_reducible refine And.intro ?_ ?_); (· first | omega | (simp only [List.length_take]; omega)); try simp -implicitDefEqProofs only [go_sem, *]) | fail))
    all_goals first
      | ((with_reducible refine fin_pu ?_ ?_); (· (rw [← hg, allFrom_lt (by omega : i < p.vals.length)]; clear hg; simp_all; done)); (· rfl))
      | ((with_reducible refine fin_pu ?_ ?_); (· (rw [← hg, allFrom_ge (by omega : ¬ i < p.vals.length)]; done)); (· rfl))
      | ((with_reducible refine ⟨i + 1, ⟨by omega, ?_⟩, by omega, ?_⟩); (· (rw [← hg, allFrom_lt (by omega : i < p.vals.length)]; clear hg; simp_all)); (· refine wk_tm ?_; repeat (first | exact WL.nil | (with_reducible refine WL.any _ _ _ ?_) | (with_reducible refine WL.same _ _ _ ?_) | (refine WL.eq _ _ _ _ rfl ?_))))
theorem l12Took_fn (l : List Rc) (tx page : Int) (hw : Wf l) : Fn1 Tryz.prog 82 [recs l, I tx, I page] (Bo (tookB l tx page)) := by
  have hb : l.length < 4611686018427387904 := by have := hw.len; omega
  refine fn1_of Tryz.func82 rfl rfl ?_
  simp -implicitDefEqProofs only [go_sem, Tryz.f82]
  (repeat' (first | ((with_reducible first | refine gon ?_ ?_ | refine gos ?_ ?_ | refine cdn ?_ ?_ | refine cds ?_ ?_ | refine gpn ?_ ?_ | refine gps ?_ ?_) <;> intro h <;> (try simp only [dt, df, gi, gt] at h) <;> try simp -implicitDefEqProofs only [go_sem, *]) | ((with_reducible refine And.intro ?_ ?_); (· first | omega | (simp only [List.length_take]; omega)); try simp -implicitDefEqProofs only [go_sem, *]) | ((with_reducible refine enter_pu (l3Last_fn l tx ?_) ?_ ?_ ?_); (· (first | assumption | omega | (simp; omega))); (· rfl); (· rfl); try simp -implicitDefEqProofs only [go_sem, *])))
  refine cp_loop (fun n : Nat => ⟨(recs l :: I tx :: I page :: .any :: .any :: .any :: Bo false :: I (n : Int) :: .any :: .any :: .any :: .any :: .any :: .any :: .any :: .any :: .any :: .any :: .any :: .any :: .any :: .any :: .any :: .any :: .any :: .any :: .any :: .any :: .any :: .any :: .any :: .any :: .any :: .any :: .any :: .any :: .any :: .any :: .any :: []), [], []⟩) (fun n => n ≤ l.length ∧ ((chain l n).any fun n => decide ((at' l ((n : Int) - 1)).kind = 2) && decide ((at' l ((n : Int) - 1)).page = page) && decide (0 < (at' l ((n : Int) - 1)).new)) = tookB l tx page) (fun n => n) (lastN l tx) ?_ ?_ ?_
  · simp [tookB, lastN_le]
  · refine wk_tm ?_; repeat (first | exact WL.nil | (with_reducible refine WL.any _ _ _ ?_) | (with_reducible refine WL.same _ _ _ ?_) | (refine WL.eq _ _ _ _ rfl ?_))
  · rintro n ⟨hi, hg⟩
    rcases n with _ | n
    · simp -implicitDefEqProofs only [go_sem, true_and]
      (repeat' (first | ((with_reducible first | refine gon ?_ ?_ | refine gos ?_ ?_ | refine cdn ?_ ?_ | refine cds ?_ ?_ | refine gpn ?_ ?_ | refine gps ?_ ?_) <;> intro h <;> (try simp only [dt, df, gi, gt] at h) <;> try simp -implicitDefEqProofs only [go_sem, *]) | ((with_reducible refine And.intro ?_ ?_); (· first | omega | (simp only [List.length_take]; omega)); try simp -implicitDefEqProofs only [go_sem, *]) | fail))
      all_goals first | ((with_reducible refine ⟨0, ⟨by omega, ?_⟩, by omega, wk_tm ?_⟩); (· (rw [← hg]; clear hg; (simp_all [chain_zero]) <;> (first | omega | (rw [Bool.eq_iff_iff]; simp; done) | (rw [Bool.eq_iff_iff]; simp; omega) | (split <;> (first | rfl | omega | (simp_all; done)))))); (· repeat (first | exact WL.nil | (with_reducible refine WL.any _ _ _ ?_) | (with_reducible refine WL.same _ _ _ ?_) | (refine WL.eq _ _ _ _ rfl ?_)))) | ((with_reducible refine fin_pu ?_ ?_); (· (rw [← hg]; first | done | (clear hg; (simp_all [chain_zero]) <;> (first | omega | (rw [Bool.eq_iff_iff]; simp; done) | (rw [Bool.eq_iff_iff]; simp; omega) | (split <;> (first | rfl | omega | (simp_all; done))))))); (· rfl))
    · obtain ⟨m, hm, hp⟩ := hw.prev n (by omega)
      have hb : n < 4611686018427387904 := by omega
      simp -implicitDefEqProofs only [go_sem, hb, hp]
      (repeat' (first | ((with_reducible first | refine gon ?_ ?_ | refine gos ?_ ?_ | refine cdn ?_ ?_ | refine cds ?_ ?_ | refine gpn ?_ ?_ | refine gps ?_ ?_) <;> intro h <;> (try simp only [dt, df, gi, gt] at h) <;> try simp -implicitDefEqProofs only [go_sem, *]) | ((with_reducible refine And.intro ?_ ?_); (· first | omega | (simp only [List.length_take]; omega)); try simp -implicitDefEqProofs only [go_sem, *]) | fail))
      all_goals first
        | ((with_reducible refine fin_pu ?_ ?_); (· (rw [← hg, chain_succ hp hm]; clear hg; (simp_all [succ_m1]) <;> (first | omega | (rw [Bool.eq_iff_iff]; simp; done) | (rw [Bool.eq_iff_iff]; simp; omega) | (split <;> (first | rfl | omega | (simp_all; done)))))); (· rfl))
        | ((with_reducible refine ⟨m, ⟨by omega, ?_⟩, by omega, ?_⟩); (· (rw [← hg, chain_succ hp hm]; clear hg; (simp_all [succ_m1]) <;> (first | omega | (rw [Bool.eq_iff_iff]; simp; done) | (rw [Bool.eq_iff_iff]; simp; omega) | (split <;> (first | rfl | omega | (simp_all; done)))))); (· refine WkN.trans (wk_tm ?_) (wk_trunc (S := []) (Nat.le_refl _) rfl (by first | rfl | (simp only [sltB, List.all_cons, List.all_nil, slt_p, slt_I, slt_r, Bool.and_true]; done) | (simp only [sltB, List.all_cons, List.all_nil, slt_p, slt_I, slt_r, Bool.and_true]; rfl))); repeat (first | exact WL.nil | (with_reducible refine WL.any _ _ _ ?_) | (with_reducible refine WL.same _ _ _ ?_) | (refine WL.eq _ _ _ _ rfl ?_))))
end
section
attribute [local go_sem] slt_r slt_I slt_p
attribute [local congr] yieldR_congr nc_congr
@[local go_sem] theorem yieldR_idx' {α : Type} [Inhabited α] {z : Nat} {te : TI} {f : α → D} {l : List α} {n : Int} {v : AV} :
    yieldR (idx z te f l n) v = ((0 ≤ n ∧ n.toNat < l.length ∧ te.zs.length = z) ∧ .ro (f (at' l n)).cells = v) := by
  unfold idx
  rw [indexS_sl, yieldR_val]
  refine propext ?_
  rw [List.length_map]
  constructor
  · rintro ⟨h, k⟩
    rw [idx_eq h.2.1] at k
    exact ⟨h, k⟩
  · rintro ⟨h, k⟩
    rw [← idx_eq h.2.1] at k
    exact ⟨h, k⟩
end
section
attribute [local go_sem] slt_r slt_I slt_p
@[go_sem] theorem opR_min {T : TypeId → Option TI} {tm : List AV} {S : Store} {x y : Operand} {ts : Array TypeId} : opR T tm S (.call ⟨.builtin .min, #[x, y], ts⟩) = maxR true (ev tm x) (ev tm y) := by
  simp only [opR, callR]
@[go_sem] theorem ite_tt {α : Type} {a b : α} : (if true = true then a else b) = a := rfl
@[go_sem] theorem ite_min {a b : Int} : (if b < a then b else a) = min a b := by omega
end
section
attribute [local go_sem] slt_r slt_I slt_p
@[go_sem] theorem putS_new1 {ρ : Nat → Nat} {o : Option AObj} {T : Store} : putS ρ [] [o] T = T ++ [rnO ρ o] := rfl
@[go_sem] theorem rho11 {a n : Nat} : rho [a] n 1 = n := by simp [rho]
end
section
attribute [local go_sem] slt_r slt_I slt_p
theorem rnT_own {K : List Nat} {i j z o l : Nat} (h : K[j]? = some i) : RnT K (.own i z o l) (.own j z o l) := .of _ _ (.of _ _ (.own _ _ _ _ _ h))
theorem rnT_eX5 {K : List Nat} {a b i j : Nat} {l : List Rc} {s : Int} {d : Bool} (h0 : K[a]? = some i) (h1 : K[b]? = some j) : RnT K (.agg [.own i 3 0 5, .own j 3 0 5, recs l, I s, Bo d]) (.agg [.own a 3 0 5, .own b 3 0 5, recs l, I s, Bo d]) :=
  .of _ _ (.agg _ _ (.cons _ _ _ _ (.own _ _ _ _ _ h0) (.cons _ _ _ _ (.own _ _ _ _ _ h1) (.cons _ _ _ _ (.same _ rfl) (.cons _ _ _ _ (.same _ rfl) (.cons _ _ _ _ (.same _ rfl) .nil))))))
end
section
attribute [local go_sem] slt_r slt_I slt_p
theorem valsB_lt {vals : List Int} {i : Nat} (h : i < vals.length) : allFrom (fun k => isIn (at' vals k) 0 9) i vals.length = (isIn (at' vals (i : Int)) 0 9 && allFrom (fun k => isIn (at' vals k) 0 9) (i + 1) vals.length) := allFrom_lt h
theorem a2_fz {k : Nat} {o : AObj} (l : List AV) : All2 (Fz1 k o) l l := by
  induction l with
  | nil => exact .nil
  | cons x l ih => exact .cons _ _ _ _ (.of _ _ (.same x)) ih
theorem a2_set {k : Nat} {o : AObj} {x y : AV} (h : Fz1 k o x y) : ∀ (l : List AV) (j : Nat), All2 (Fz1 k o) (l.set j x) (l.set j y)
  | [], _ => .nil
  | a :: l, 0 => .cons _ _ _ _ h (a2_fz l)
  | a :: l, j + 1 => .cons _ _ _ _ (.of _ _ (.same a)) (a2_set h l j)
theorem set_pA (l : List Pg) (k : Nat) (a b : Int) (v : List Int) : (l.set k ⟨a, b, v⟩).map pA = (l.map pA).set k (.agg [I a, I b, ints v]) := by rw [List.map_set]
theorem frz_load {vals : List Int} {l : List Pg} {k : Nat} {a b : Int} {o1 o2 o3 o4 o5 : Option AObj} : Frz 6 ⟨1, vals.map I⟩ [o1, some ⟨3, (l.map pA).set k (.agg [I a, I b, .own 6 1 0 vals.length])⟩, o2, o3, o4, o5, some ⟨1, vals.map I⟩] [o1, oP (l.set k ⟨a, b, vals⟩), o2, o3, o4, o5, none] := by
  have same : ∀ (c : AObj), ∃ d : AObj, some (some c) = some (some d) ∧ c.z = d.z ∧ All2 (Fz1 6 ⟨1, vals.map I⟩) d.es c.es := fun c => ⟨c, rfl, rfl, a2_fz _⟩
  refine ⟨rfl, rfl, fun i c hc => ?_⟩
  rcases i with _ | _ | _ | _ | _ | _ | _ | i
  · cases hc; exact same c
  · cases hc
    refine ⟨_, rfl, rfl, ?_⟩
    show All2 _ ((l.map pA).set k _) ((l.set k ⟨a, b, vals⟩).map pA)
    rw [set_pA]
    exact a2_set (.agg _ _ (.cons _ _ _ _ (.same _) (.cons _ _ _ _ (.same _) (.cons _ _ _ _ (.drop 0 vals.length (vals.map iD) (by simp) (by simpa [List.take_of_length_le] using isDs_I vals)) .nil)))) _ _
  · cases hc; exact same c
  · cases hc; exact same c
  · cases hc; exact same c
  · cases hc; exact same c
  · cases hc
  · cases hc
def InvL (k : Nat) (own : Int) (X : AObj) (S : Store) : Prop := getO S 4 = some X ∧ ∃ es, getO S 1 = some ⟨3, es⟩ ∧ k < es.length ∧ (es.getD k .any).cells.getD 1 .any = I own
theorem l12Load_c (e : Eng) (tx page : Int) (vals : List Int) (hi : Inv e) (hvb : vals.length < 4611686018427387904) : AFn1 Tryz.prog 36 [eX 0 1 e, I tx, I page, ints vals] (sO e) (.tup [eX 0 1 (e.load tx page vals).1, Bo (e.load tx page vals).2]) (sO (e.load tx page vals).1) [] := by
  have hd5 := hi.disk.len
  have hm5 := hi.mem.len
  have hmay := l12May_fn e tx page hi.wf
  refine afn1_of Tryz.func36 rfl rfl ?_
  by_cases h1 : mayB e tx page = true
  rotate_left
  · have h1' : mayB e tx page = false := by simpa using h1
    rw [h1'] at hmay
    have e1 : e.load tx page vals = (e, false) := if_neg (by simp [Eng.loadB, h1'])
    rw [e1]
    simp -implicitDefEqProofs only [go_sem, Tryz.f36]
    (repeat' (first | ((with_reducible first | refine gon ?_ ?_ | refine gos ?_ ?_ | refine cdn ?_ ?_ | refine cds ?_ ?_ | refine gpn ?_ ?_ | refine gps ?_ ?_) <;> intro h <;> (try simp only [dt, df, gi, gt] at h) <;> try simp -implicitDefEqProofs only [go_sem, *]) | ((with_reducible refine And.intro ?_ ?_); (· first | omega | (simp only [List.length_take]; omega)); try simp -implicitDefEqProofs only [go_sem, *]) | first | ((with_reducible refine enter_own (hmay) ?_ rfl rfl ?_); (· repeat (first | exact All2.nil | (refine All2.cons _ _ _ _ ?_ ?_; (· first | exact arg_same rfl | exact arg_eX5 rfl rfl (by first | omega | (simp; omega)) (by first | omega | (simp; omega)) | exact arg_eX rfl rfl (by first | omega | (simp; omega)) (by first | omega | (simp; omega)) | exact .of1 _ _ (.of0 _ _ (arg0_r rfl (by simp))))))); try simp -implicitDefEqProofs only [go_sem, *])))
    exact fin_move [0, 1] [] (by simp) rfl (by decide) (keep2 rfl rfl (a2_p _ _) (a2_p _ _)) (hm2 rfl) (rnT_eXb rfl rfl) ⟨rfl, rfl, rfl⟩
  rw [h1] at hmay
  obtain ⟨-, ht, hp⟩ := mayB_iff h1
  obtain ⟨k, hk, rfl⟩ := page_nat hp
  have hsz := hi.mem.sz.sz k hk
  have h5 : (k : Int) < 5 := by omega
  clear hp
  have hem := l1Empty_fn (at' e.mem (k : Int)) (by omega)
  have htk := l12Took_fn e.log tx (k : Int) hi.wf
  by_cases h2 : vals.length = 3
  rotate_left
  · have h2' : ((vals.length : Int) != 3) = true := by simpa using by omega
    have e1 : e.load tx k vals = (e, false) := if_neg (by simp [Eng.loadB, h2])
    rw [e1]
    simp -implicitDefEqProofs only [go_sem, Tryz.f36]
    (repeat' (first | ((with_reducible first | refine gon ?_ ?_ | refine gos ?_ ?_ | refine cdn ?_ ?_ | refine cds ?_ ?_ | refine gpn ?_ ?_ | refine gps ?_ ?_) <;> intro h <;> (try simp only [dt, df, gi, gt] at h) <;> try simp -implicitDefEqProofs only [go_sem, *]) | ((with_reducible refine And.intro ?_ ?_); (· first | omega | (simp only [List.length_take]; omega)); try simp -implicitDefEqProofs only [go_sem, *]) | first | ((with_reducible refine enter_own (hmay) ?_ rfl rfl ?_); (· repeat (first | exact All2.nil | (refine All2.cons _ _ _ _ ?_ ?_; (· first | exact arg_same rfl | exact arg_eX5 rfl rfl (by first | omega | (simp; omega)) (by first | omega | (simp; omega)) | exact arg_eX rfl rfl (by first | omega | (simp; omega)) (by first | omega | (simp; omega)) | exact .of1 _ _ (.of0 _ _ (arg0_r rfl (by simp))))))); try simp -implicitDefEqProofs only [go_sem, *])))
    exact fin_move [0, 1] [] (by simp) rfl (by decide) (keep2 rfl rfl (a2_p _ _) (a2_p _ _)) (hm2 rfl) (rnT_eXb rfl rfl) ⟨rfl, rfl, rfl⟩
  have h2' : (((3 : Nat) : Int) != 3) = false := rfl
  by_cases h3 : (at' e.mem (k : Int)).owner = 0
  · have h3' : ((at' e.mem (k : Int)).owner == 0) = true := by simpa using h3
    have e1 : e.load tx k vals = (e, false) := if_neg (by simp [Eng.loadB, h3])
    rw [e1]
    clear h3
    simp -implicitDefEqProofs only [go_sem, Tryz.f36]
    (repeat' (first | ((with_reducible first | refine gon ?_ ?_ | refine gos ?_ ?_ | refine cdn ?_ ?_ | refine cds ?_ ?_ | refine gpn ?_ ?_ | refine gps ?_ ?_) <;> intro h <;> (try simp only [dt, df, gi, gt] at h) <;> try simp -implicitDefEqProofs only [go_sem, *]) | ((with_reducible refine And.intro ?_ ?_); (· first | omega | (simp only [List.length_take]; omega)); try simp -implicitDefEqProofs only [go_sem, *]) | first | ((with_reducible refine enter_own (hmay) ?_ rfl rfl ?_); (· repeat (first | exact All2.nil | (refine All2.cons _ _ _ _ ?_ ?_; (· first | exact arg_same rfl | exact arg_eX5 rfl rfl (by first | omega | (simp; omega)) (by first | omega | (simp; omega)) | exact arg_eX rfl rfl (by first | omega | (simp; omega)) (by first | omega | (simp; omega)) | exact .of1 _ _ (.of0 _ _ (arg0_r rfl (by simp))))))); try simp -implicitDefEqProofs only [go_sem, *])))
    exact fin_move [0, 1] [] (by simp) rfl (by decide) (keep2 rfl rfl (a2_p _ _) (a2_p _ _)) (hm2 rfl) (rnT_eXb rfl rfl) ⟨rfl, rfl, rfl⟩
  have h3' : ((at' e.mem (k : Int)).owner == 0) = false := by simpa using h3
  by_cases h4 : emptyB (at' e.mem (k : Int)) = true
  rotate_left
  · have h4' : emptyB (at' e.mem (k : Int)) = false := by simpa using h4
    rw [h4'] at hem
    have e1 : e.load tx k vals = (e, false) := if_neg (by simp [Eng.loadB, h4'])
    rw [e1]
    clear h3
    simp -implicitDefEqProofs only [go_sem, Tryz.f36]
    (repeat' (first | ((with_reducible first | refine gon ?_ ?_ | refine gos ?_ ?_ | refine cdn ?_ ?_ | refine cds ?_ ?_ | refine gpn ?_ ?_ | refine gps ?_ ?_) <;> intro h <;> (try simp only [dt, df, gi, gt] at h) <;> try simp -implicitDefEqProofs only [go_sem, *]) | ((with_reducible refine And.intro ?_ ?_); (· first | omega | (simp only [List.length_take]; omega)); try simp -implicitDefEqProofs only [go_sem, *]) | first | ((with_reducible refine enter_own (hmay) ?_ rfl rfl ?_); (· repeat (first | exact All2.nil | (refine All2.cons _ _ _ _ ?_ ?_; (· first | exact arg_same rfl | exact arg_eX5 rfl rfl (by first | omega | (simp; omega)) (by first | omega | (simp; omega)) | exact arg_eX rfl rfl (by first | omega | (simp; omega)) (by first | omega | (simp; omega)) | exact .of1 _ _ (.of0 _ _ (arg0_r rfl (by simp))))))); try simp -implicitDefEqProofs only [go_sem, *]) | ((with_reducible refine enter_own (hem) ?_ rfl rfl ?_); (· repeat (first | exact All2.nil | (refine All2.cons _ _ _ _ ?_ ?_; (· first | exact arg_same rfl | exact arg_eX5 rfl rfl (by first | omega | (simp; omega)) (by first | omega | (simp; omega)) | exact arg_eX rfl rfl (by first | omega | (simp; omega)) (by first | omega | (simp; omega)) | exact .of1 _ _ (.of0 _ _ (arg0_r rfl (by simp))))))); try simp -implicitDefEqProofs only [go_sem, *])))
    exact fin_move [0, 1] [] (by simp) rfl (by decide) (keep2 rfl rfl (a2_p _ _) (a2_p _ _)) (hm2 rfl) (rnT_eXb rfl rfl) ⟨rfl, rfl, rfl⟩
  rw [h4] at hem
  by_cases h6 : tookB e.log tx (k : Int) = true
  rotate_left
  · have h6' : tookB e.log tx (k : Int) = false := by simpa using h6
    rw [h6'] at htk
    have e1 : e.load tx k vals = (e, false) := if_neg (by simp [Eng.loadB, h6'])
    rw [e1]
    clear h3
    simp -implicitDefEqProofs only [go_sem, Tryz.f36]
    (repeat' (first | ((with_reducible first | refine gon ?_ ?_ | refine gos ?_ ?_ | refine cdn ?_ ?_ | refine cds ?_ ?_ | refine gpn ?_ ?_ | refine gps ?_ ?_) <;> intro h <;> (try simp only [dt, df, gi, gt] at h) <;> try simp -implicitDefEqProofs only [go_sem, *]) | ((with_reducible refine And.intro ?_ ?_); (· first | omega | (simp only [List.length_take]; omega)); try simp -implicitDefEqProofs only [go_sem, *]) | first | ((with_reducible refine enter_own (hmay) ?_ rfl rfl ?_); (· repeat (first | exact All2.nil | (refine All2.cons _ _ _ _ ?_ ?_; (· first | exact arg_same rfl | exact arg_eX5 rfl rfl (by first | omega | (simp; omega)) (by first | omega | (simp; omega)) | exact arg_eX rfl rfl (by first | omega | (simp; omega)) (by first | omega | (simp; omega)) | exact .of1 _ _ (.of0 _ _ (arg0_r rfl (by simp))))))); try simp -implicitDefEqProofs only [go_sem, *]) | ((with_reducible refine enter_own (hem) ?_ rfl rfl ?_); (· repeat (first | exact All2.nil | (refine All2.cons _ _ _ _ ?_ ?_; (· first | exact arg_same rfl | exact arg_eX5 rfl rfl (by first | omega | (simp; omega)) (by first | omega | (simp; omega)) | exact arg_eX rfl rfl (by first | omega | (simp; omega)) (by first | omega | (simp; omega)) | exact .of1 _ _ (.of0 _ _ (arg0_r rfl (by simp))))))); try simp -implicitDefEqProofs only [go_sem, *]) | ((with_reducible refine enter_own (htk) ?_ rfl rfl ?_); (· repeat (first | exact All2.nil | (refine All2.cons _ _ _ _ ?_ ?_; (· first | exact arg_same rfl | exact arg_eX5 rfl rfl (by first | omega | (simp; omega)) (by first | omega | (simp; omega)) | exact arg_eX rfl rfl (by first | omega | (simp; omega)) (by first | omega | (simp; omega)) | exact .of1 _ _ (.of0 _ _ (arg0_r rfl (by simp))))))); try simp -implicitDefEqProofs only [go_sem, *])))
    exact fin_move [0, 1] [] (by simp) rfl (by decide) (keep2 rfl rfl (a2_p _ _) (a2_p _ _)) (hm2 rfl) (rnT_eXb rfl rfl) ⟨rfl, rfl, rfl⟩
  rw [h6] at htk
  have hlb : e.loadB tx k vals = valsB vals := by simp [Eng.loadB, h1, h2, h3, h4, h6]
  have hadd := l12Add_c e (ldR tx k) hi (can_load hi h1)
  have hal := alog_len e (ldR tx k)
  clear h3
  simp -implicitDefEqProofs only [go_sem, Tryz.f36]
  (repeat' (first | ((with_reducible first | refine gon ?_ ?_ | refine gos ?_ ?_ | refine cdn ?_ ?_ | refine cds ?_ ?_ | refine gpn ?_ ?_ | refine gps ?_ ?_) <;> intro h <;> (try simp only [dt, df, gi, gt] at h) <;> try simp -implicitDefEqProofs only [go_sem, *]) | ((with_reducible refine And.intro ?_ ?_); (· first | omega | (simp only [List.length_take]; omega)); try simp -implicitDefEqProofs only [go_sem, *]) | first | ((with_reducible refine enter_own (hmay) ?_ rfl rfl ?_); (· repeat (first | exact All2.nil | (refine All2.cons _ _ _ _ ?_ ?_; (· first | exact arg_same rfl | exact arg_eX5 rfl rfl (by first | omega | (simp; omega)) (by first | omega | (simp; omega)) | exact arg_eX rfl rfl (by first | omega | (simp; omega)) (by first | omega | (simp; omega)) | exact .of1 _ _ (.of0 _ _ (arg0_r rfl (by simp))))))); try simp -implicitDefEqProofs only [go_sem, *]) | ((with_reducible refine enter_own (hem) ?_ rfl rfl ?_); (· repeat (first | exact All2.nil | (refine All2.cons _ _ _ _ ?_ ?_; (· first | exact arg_same rfl | exact arg_eX5 rfl rfl (by first | omega | (simp; omega)) (by first | omega | (simp; omega)) | exact arg_eX rfl rfl (by first | omega | (simp; omega)) (by first | omega | (simp; omega)) | exact .of1 _ _ (.of0 _ _ (arg0_r rfl (by simp))))))); try simp -implicitDefEqProofs only [go_sem, *]) | ((with_reducible refine enter_own (htk) ?_ rfl rfl ?_); (· repeat (first | exact All2.nil | (refine All2.cons _ _ _ _ ?_ ?_; (· first | exact arg_same rfl | exact arg_eX5 rfl rfl (by first | omega | (simp; omega)) (by first | omega | (simp; omega)) | exact arg_eX rfl rfl (by first | omega | (simp; omega)) (by first | omega | (simp; omega)) | exact .of1 _ _ (.of0 _ _ (arg0_r rfl (by simp))))))); try simp -implicitDefEqProofs only [go_sem, *])))
  refine cp_loop (fun i : Nat => ⟨(eX 0 1 e :: I tx :: I (k : Int) :: ints vals :: .ref 2 5 0 0 :: .any :: .any :: .any :: .ref 3 5 0 0 :: Bo false :: I (i : Int) :: .any :: .any :: .any :: .any :: .any :: .any :: .any :: .any :: .any :: .any :: .any :: .any :: .any :: .any :: .any :: .any :: .any :: .any :: .any :: .any :: .any :: .any :: .any :: .any :: .any :: .any :: .any :: .any :: .any :: .any :: .any :: .any :: .any :: .any :: .any :: .any :: .any :: .any :: .any :: .any :: .any :: .any :: .any :: .any :: .any :: .any :: .any :: .any :: .any :: .any :: .any :: .any :: .any :: .any :: .any :: .any :: .any :: .any :: .any :: .any :: .any :: .any :: .any :: .any :: .any :: .any :: .any :: .any :: .any :: .any :: .any :: .any :: .any :: .any :: .any :: .any :: .any :: .any :: .any :: .any :: []), [oP e.disk, oP e.mem, some ⟨5, [eX 0 1 e]⟩, some ⟨5, [.agg [.prim (.slice none 0 0), .prim (.slice none 0 0), .prim (.slice none 0 0), I 0, Bo false]]⟩], []⟩) (fun i => i ≤ vals.length ∧ allFrom (fun k => isIn (at' vals k) 0 9) i vals.length = valsB vals) (fun i => vals.length - i) 0 ?_ ?_ ?_
  · exact ⟨by omega, rfl⟩
  · refine wk_tm ?_; repeat (first | exact WL.nil | (with_reducible refine WL.any _ _ _ ?_) | (with_reducible refine WL.same _ _ _ ?_) | (refine WL.eq _ _ _ _ rfl ?_))
  · have hv3 : vals.length ≤ 3 ∧ 3 ≤ vals.length := by omega
    clear h2 h2'
    rintro i ⟨hi3, hg⟩
    have hib : i < 4611686018427387904 := by omega
    by_cases hil : i < vals.length
    · rw [valsB_lt (by omega)] at hg
      have hl1 : (i : Int) < (vals.length : Int) := by omega
      have hin := l6In_fn (at' vals (i : Int)) 0 9
      rcases hb : isIn (at' vals (i : Int)) 0 9 with _ | _
      · rw [hb] at hin hg
        have e1 : e.load tx k vals = (e, false) := if_neg (by rw [hlb, ← hg]; simp)
        rw [e1]
        simp -implicitDefEqProofs only [go_sem, hl1]
        (repeat' (first | ((with_reducible first | refine gon ?_ ?_ | refine gos ?_ ?_ | refine cdn ?_ ?_ | refine cds ?_ ?_ | refine gpn ?_ ?_ | refine gps ?_ ?_) <;> intro h <;> (try simp only [dt, df, gi, gt] at h) <;> try simp -implicitDefEqProofs only [go_sem, *]) | ((with_reducible refine And.intro ?_ ?_); (· first | omega | (simp only [List.length_take]; omega)); try simp -implicitDefEqProofs only [go_sem, *]) | ((with_reducible refine enter_pu (hin) ?_ ?_ ?_); (· rfl); (· rfl); try simp -implicitDefEqProofs only [go_sem, *])))
        exact fin_move [0, 1] [] (by simp) rfl (by decide) (keep2 rfl rfl (a2_p _ _) (a2_p _ _)) (hm2 rfl) (rnT_eXb rfl rfl) ⟨rfl, rfl, rfl⟩
      · rw [hb, Bool.true_and] at hg
        rw [hb] at hin
        simp -implicitDefEqProofs only [go_sem, hl1]
        (repeat' (first | ((with_reducible first | refine gon ?_ ?_ | refine gos ?_ ?_ | refine cdn ?_ ?_ | refine cds ?_ ?_ | refine gpn ?_ ?_ | refine gps ?_ ?_) <;> intro h <;> (try simp only [dt, df, gi, gt] at h) <;> try simp -implicitDefEqProofs only [go_sem, *]) | ((with_reducible refine And.intro ?_ ?_); (· first | omega | (simp only [List.length_take]; omega)); try simp -implicitDefEqProofs only [go_sem, *]) | ((with_reducible refine enter_pu (hin) ?_ ?_ ?_); (· rfl); (· rfl); try simp -implicitDefEqProofs only [go_sem, *])))
        refine ⟨i + 1, ⟨by omega, hg⟩, by omega, ?_⟩
        refine wk_tm ?_; repeat (first | exact WL.nil | (with_reducible refine WL.any _ _ _ ?_) | (with_reducible refine WL.same _ _ _ ?_) | (refine WL.eq _ _ _ _ rfl ?_))
    · have hl1 : ¬ (i : Int) < (vals.length : Int) := by omega
      rw [allFrom_ge (by omega)] at hg
      by_cases hf : e.fits (ldR tx k) = true
      · have e1 : e.load tx k vals = (e.laid tx k vals, true) := by unfold Eng.load; rw [if_pos (by rw [hlb, ← hg]), if_pos hf]
        have e2 : e.add (ldR tx k) = (e.added (ldR tx k), true) := if_pos hf
        have e3 : e.added (ldR tx k) = ⟨e.disk, e.mem, e.alog (ldR tx k), e.safe, e.down⟩ := by
          unfold Eng.added Eng.amem
          rw [if_neg (by show ¬ chg 3 = true; decide)]
        rw [e2, e3] at hadd
        rw [e1]
        clear hlb hg hmay
        simp -implicitDefEqProofs only [go_sem, hl1]
        (repeat' (first | ((with_reducible first | refine gon ?_ ?_ | refine gos ?_ ?_ | refine cdn ?_ ?_ | refine cds ?_ ?_ | refine gpn ?_ ?_ | refine gps ?_ ?_) <;> intro h <;> (try simp only [dt, df, gi, gt] at h) <;> try simp -implicitDefEqProofs only [go_sem, *]) | ((with_reducible refine And.intro ?_ ?_); (· first | omega | (simp only [List.length_take]; omega)); try simp -implicitDefEqProofs only [go_sem, *]) | first | ((with_reducible refine enter_at1 [0, 1] (M2 := []) (hadd) (by decide) ?_ ?_ rfl ?_); (· repeat (first | exact Keeps.nil | (refine Keeps.cons _ _ _ _ _ rfl rfl ?_ ?_; (· first | exact a2_p _ _ | exact a2_1 rfl | exact a2_I _ _)))); (· repeat (first | exact All2.nil | (refine All2.cons _ _ _ _ ?_ ?_; (· first | exact rnT_eX rfl rfl | exact rnT_prim | exact rnT_sl | exact rnT_ref rfl | exact rnT_agg rfl | exact rnT_own rfl | exact rnT_eX5 rfl rfl)))); try simp -implicitDefEqProofs only [go_sem, *])))
        refine cp_drawG (id := 10) 18 (InvL k (at' e.mem (k : Int)).owner ⟨5, [.agg [.own 0 3 0 5, .own 1 3 0 5, recs (e.alog (ldR tx (k : Int))), I e.safe, Bo e.down]]⟩) mixed rfl ?_
        have hx1 : k < (e.mem.map pA).length := by simp; omega
        have hx2 : ((e.mem.map pA).getD k .any).cells.getD 1 .any = I (at' e.mem (k : Int)).owner := by simp [at', hm5, hk]; rfl
        have hinv : InvL k (at' e.mem (k : Int)).owner ⟨5, [.agg [.own 0 3 0 5, .own 1 3 0 5, recs (e.alog (ldR tx (k : Int))), I e.safe, Bo e.down]]⟩ [oP e.disk, oP e.mem, some ⟨5, [eX 0 1 e]⟩, some ⟨5, [.agg [.prim (.slice none 0 0), .prim (.slice none 0 0), .prim (.slice none 0 0), I 0, Bo false]]⟩, some ⟨5, [.agg [.own 0 3 0 5, .own 1 3 0 5, recs (e.alog (ldR tx (k : Int))), I e.safe, Bo e.down]]⟩] := ⟨rfl, _, rfl, hx1, hx2⟩
        ((refine expG_get 0 (.ref 4 5 0 1) rfl ?_ ?_ hinv ?_ ?_); (· decide +kernel); (· decide +kernel); (· (rintro S ⟨hS0, es, hS1, hS2, hS3⟩; simp -implicitDefEqProofs only [go_sem, hS0, hS1, hS2, hS3, *])); try simp -implicitDefEqProofs only [go_sem, List.set_cons_succ, List.set_cons_zero])
        ((refine expG_get 1 (.own 1 3 0 5) rfl ?_ ?_ hinv ?_ ?_); (· decide +kernel); (· decide +kernel); (· (rintro S ⟨hS0, es, hS1, hS2, hS3⟩; simp -implicitDefEqProofs only [go_sem, hS0, hS1, hS2, hS3, *])); try simp -implicitDefEqProofs only [go_sem, List.set_cons_succ, List.set_cons_zero])
        ((refine expG_get 2 (I k) rfl ?_ ?_ hinv ?_ ?_); (· decide +kernel); (· decide +kernel); (· (rintro S ⟨hS0, es, hS1, hS2, hS3⟩; simp -implicitDefEqProofs only [go_sem, hS0, hS1, hS2, hS3, *])); try simp -implicitDefEqProofs only [go_sem, List.set_cons_succ, List.set_cons_zero])
        ((refine expG_get 3 (.ref 4 5 0 2) rfl ?_ ?_ hinv ?_ ?_); (· decide +kernel); (· decide +kernel); (· (rintro S ⟨hS0, es, hS1, hS2, hS3⟩; simp -implicitDefEqProofs only [go_sem, hS0, hS1, hS2, hS3, *])); try simp -implicitDefEqProofs only [go_sem, List.set_cons_succ, List.set_cons_zero])
        ((refine expG_get 4 (recs (e.alog (ldR tx (k : Int)))) rfl ?_ ?_ hinv ?_ ?_); (· decide +kernel); (· decide +kernel); (· (rintro S ⟨hS0, es, hS1, hS2, hS3⟩; simp -implicitDefEqProofs only [go_sem, hS0, hS1, hS2, hS3, *])); try simp -implicitDefEqProofs only [go_sem, List.set_cons_succ, List.set_cons_zero])
        ((refine expG_get 5 (I ((e.log.length + 1 : Nat) : Int)) rfl ?_ ?_ hinv ?_ ?_); (· decide +kernel); (· decide +kernel); (· (rintro S ⟨hS0, es, hS1, hS2, hS3⟩; simp -implicitDefEqProofs only [go_sem, hS0, hS1, hS2, hS3, *])); try simp -implicitDefEqProofs only [go_sem, List.set_cons_succ, List.set_cons_zero])
        ((refine expG_get 6 (.ref 4 5 0 1) rfl ?_ ?_ hinv ?_ ?_); (· decide +kernel); (· decide +kernel); (· (rintro S ⟨hS0, es, hS1, hS2, hS3⟩; simp -implicitDefEqProofs only [go_sem, hS0, hS1, hS2, hS3, *])); try simp -implicitDefEqProofs only [go_sem, List.set_cons_succ, List.set_cons_zero])
        ((refine expG_get 7 (.own 1 3 0 5) rfl ?_ ?_ hinv ?_ ?_); (· decide +kernel); (· decide +kernel); (· (rintro S ⟨hS0, es, hS1, hS2, hS3⟩; simp -implicitDefEqProofs only [go_sem, hS0, hS1, hS2, hS3, *])); try simp -implicitDefEqProofs only [go_sem, List.set_cons_succ, List.set_cons_zero])
        ((refine expG_get 8 (I k) rfl ?_ ?_ hinv ?_ ?_); (· decide +kernel); (· decide +kernel); (· (rintro S ⟨hS0, es, hS1, hS2, hS3⟩; simp -implicitDefEqProofs only [go_sem, hS0, hS1, hS2, hS3, *])); try simp -implicitDefEqProofs only [go_sem, List.set_cons_succ, List.set_cons_zero])
        ((refine expG_get 9 (.ref 1 3 k 0) rfl ?_ ?_ hinv ?_ ?_); (· decide +kernel); (· decide +kernel); (· (rintro S ⟨hS0, es, hS1, hS2, hS3⟩; simp -implicitDefEqProofs only [go_sem, hS0, hS1, hS2, hS3, *])); try simp -implicitDefEqProofs only [go_sem, List.set_cons_succ, List.set_cons_zero])
        ((refine expG_get 10 (.ref 1 3 k 1) rfl ?_ ?_ hinv ?_ ?_); (· decide +kernel); (· decide +kernel); (· (rintro S ⟨hS0, es, hS1, hS2, hS3⟩; simp -implicitDefEqProofs only [go_sem, hS0, hS1, hS2, hS3, *])); try simp -implicitDefEqProofs only [go_sem, List.set_cons_succ, List.set_cons_zero])
        ((refine expG_get 11 (I (at' e.mem (k : Int)).owner) rfl ?_ ?_ hinv ?_ ?_); (· decide +kernel); (· decide +kernel); (· (rintro S ⟨hS0, es, hS1, hS2, hS3⟩; simp -implicitDefEqProofs only [go_sem, hS0, hS1, hS2, hS3, *])); try simp -implicitDefEqProofs only [go_sem, List.set_cons_succ, List.set_cons_zero])
        ((refine expG_get 13 (ints vals) rfl ?_ ?_ hinv ?_ ?_); (· decide +kernel); (· decide +kernel); (· (rintro S ⟨hS0, es, hS1, hS2, hS3⟩; simp -implicitDefEqProofs only [go_sem, hS0, hS1, hS2, hS3, *])); try simp -implicitDefEqProofs only [go_sem, List.set_cons_succ, List.set_cons_zero])
        ((with_reducible refine expG_one 12 ?_ ?_); (· decide +kernel); try simp -implicitDefEqProofs only [go_sem, *])
        refine ⟨⟨rfl, _, rfl, hx1, hx2⟩, ?_⟩
        ((refine expG_new 14 rfl ?_ ?_); (· decide +kernel); simp -implicitDefEqProofs only [go_sem, *])
        refine ⟨by omega, ⟨rfl, _, rfl, hx1, hx2⟩, ?_⟩
        ((with_reducible refine expG_one 15 ?_ ?_); (· decide +kernel); try simp -implicitDefEqProofs only [go_sem, *])
        refine ⟨⟨rfl, _, rfl, hx1, hx2⟩, ?_⟩
        ((with_reducible refine expG_one 16 ?_ ?_); (· decide +kernel); try simp -implicitDefEqProofs only [go_sem, *])
        refine ⟨⟨rfl, _, rfl, hx1, hx2⟩, ?_⟩
        ((with_reducible refine expG_one 17 ?_ ?_); (· decide +kernel); try simp -implicitDefEqProofs only [go_sem, *])
        refine ⟨⟨rfl, _, rfl, by rw [List.length_set]; exact hx1, by rw [show ∀ x : AV, ((e.mem.map pA).set k x).getD k .any = x from fun x => by simp [List.getD, hm5, hk]]; rfl⟩, ?_⟩
        ((with_reducible refine expG_end ?_ ?_); (· decide +kernel); try simp -implicitDefEqProofs only [go_sem, *])
        (repeat' (first | ((with_reducible first | refine gon ?_ ?_ | refine gos ?_ ?_ | refine cdn ?_ ?_ | refine cds ?_ ?_ | refine gpn ?_ ?_ | refine gps ?_ ?_) <;> intro h <;> (try simp only [dt, df, gi, gt] at h) <;> try simp -implicitDefEqProofs only [go_sem, *]) | ((with_reducible refine And.intro ?_ ?_); (· first | omega | (simp only [List.length_take]; omega)); try simp -implicitDefEqProofs only [go_sem, *]) | fail))
        refine fin_freeze 6 (by omega) rfl frz_load (fun i hi => ?_) (.of _ _ (.of _ _ (.same _))) ?_
        · have hi2 : i = 0 ∨ i = 1 := by omega
          rcases hi2 with rfl | rfl
          · exact ⟨rfl, _, rfl, ne5 hd5⟩
          · refine ⟨rfl, _, rfl, fun h => ?_⟩
            have := congrArg List.length h
            simp [hm5] at this
        · have e5 : e.laid tx k vals = ⟨e.disk, e.mem.set k ⟨((e.log.length + 1 : Nat) : Int), (at' e.mem (k : Int)).owner, vals⟩, e.alog (ldR tx k), e.safe, e.down⟩ := by unfold Eng.laid; rw [hal]; rfl
          rw [e5]
          exact fin_move [0, 1] [] (by simp) rfl (by decide) (keep2 rfl rfl (a2_p _ _) (a2_p _ _)) (hm2 rfl) (rnT_eXb (e := ⟨e.disk, e.mem.set k ⟨((e.log.length + 1 : Nat) : Int), (at' e.mem (k : Int)).owner, vals⟩, e.alog (ldR tx k), e.safe, e.down⟩) rfl rfl) ⟨rfl, rfl, rfl⟩
      · have e1 : e.load tx k vals = (e, false) := by unfold Eng.load; rw [if_pos (by rw [hlb, ← hg]), if_neg hf]
        have e2 : e.add (ldR tx k) = (e, false) := if_neg hf
        rw [e2] at hadd
        rw [e1]
        clear hlb hg hmay
        simp -implicitDefEqProofs only [go_sem, hl1]
        (repeat' (first | ((with_reducible first | refine gon ?_ ?_ | refine gos ?_ ?_ | refine cdn ?_ ?_ | refine cds ?_ ?_ | refine gpn ?_ ?_ | refine gps ?_ ?_) <;> intro h <;> (try simp only [dt, df, gi, gt] at h) <;> try simp -implicitDefEqProofs only [go_sem, *]) | ((with_reducible refine And.intro ?_ ?_); (· first | omega | (simp only [List.length_take]; omega)); try simp -implicitDefEqProofs only [go_sem, *]) | first | ((with_reducible refine enter_at1 [0, 1] (M2 := []) (hadd) (by decide) ?_ ?_ rfl ?_); (· repeat (first | exact Keeps.nil | (refine Keeps.cons _ _ _ _ _ rfl rfl ?_ ?_; (· first | exact a2_p _ _ | exact a2_1 rfl | exact a2_I _ _)))); (· repeat (first | exact All2.nil | (refine All2.cons _ _ _ _ ?_ ?_; (· first | exact rnT_eX rfl rfl | exact rnT_prim | exact rnT_sl | exact rnT_ref rfl | exact rnT_agg rfl | exact rnT_own rfl | exact rnT_eX5 rfl rfl)))); try simp -implicitDefEqProofs only [go_sem, *])))
        exact fin_move [0, 1] [] (by simp) rfl (by decide) (keep2 rfl rfl (a2_p _ _) (a2_p _ _)) (hm2 rfl) (rnT_eXb rfl rfl) ⟨rfl, rfl, rfl⟩
end
section
attribute [local go_sem] slt_r slt_I slt_p
end
section
attribute [local go_sem] slt_r slt_I slt_p ty_ev
@[go_sem] theorem scT_one {i : Nat} {tm : List AV} : scT [i] tm = tm.map (AV.sc [i]) := rfl
@[go_sem] theorem scS_one {i : Nat} {S : Store} : scS [i] S = S.map (Option.map fun o => ⟨o.z, o.es.map (AV.sc1 [i])⟩) := rfl
attribute [go_sem] Option.map_some
abbrev evA (v : Ev) : AV := .agg [I v.kind, I v.tx, I v.page, I v.slot, I v.n, ints v.vals]
structure Ev.small (v : Ev) : Prop where
  n : v.n < 4611686018427387904
  vals : v.vals.length < 4611686018427387904
end
section
attribute [local go_sem] slt_r slt_I slt_p ty_rd
def sliceW (te : TI) (i z off len : Nat) (l h : Option Int) : OpR := match l, h with
  | some l, some h => .val (0 ≤ l ∧ l < h ∧ h ≤ len ∧ te.zs.length = z) (.own i z (off + l.toNat) (h.toNat - l.toNat))
  | _, _ => .stuck
@[go_sem] theorem sliceO_own {te : TI} {tm : List AV} {i z off len : Nat} {lo hi : Option Operand} : sliceO (some te) tm (.own i z off len) lo hi none = sliceW te i z off len (bnd tm 0 lo) (bnd tm len hi) := by
  simp only [sliceO, sliceW]
  rfl
@[go_sem] theorem sliceW_some {te : TI} {i z off len : Nat} {l h : Int} : sliceW te i z off len (some l) (some h) = .val (0 ≤ l ∧ l < h ∧ h ≤ len ∧ te.zs.length = z) (.own i z (off + l.toNat) (h.toNat - l.toNat)) := rfl
/-- A code: some bytes. -/
structure Cod (l : List Int) : Prop where
  byt : Byt l
  len : l.length ≤ 2000
end
section
attribute [local go_sem] slt_r slt_I slt_p ty_rd
end
section
attribute [local go_sem] slt_r slt_I slt_p ty_rd ty_ev
@[go_sem] theorem bsE_three {te : TI} {tm : List AV} {x y z : Operand} : bsE (some te) tm 3 #[(0, x), (1, y), (2, z)] = .new (3 * te.zs.length ≤ 16777216 ∧ ((ev tm x).ok = true ∧ (ev tm x).cells.length = te.zs.length) ∧ ((ev tm y).ok = true ∧ (ev tm y).cells.length = te.zs.length) ∧ ((ev tm z).ok = true ∧ (ev tm z).cells.length = te.zs.length))
    ⟨te.zs.length, [ev tm x, ev tm y, ev tm z]⟩ (fun i => .own i te.zs.length 0 3) := by
  simp [bsE, List.range_succ]
@[go_sem] theorem buildO_6 {tm : List AV} {b : Bool} {z0 z1 z2 z3 z4 z5 : Value} {n : Nat} {parts : List (Nat × Operand)} : buildO tm (some ⟨b, [z0, z1, z2, z3, z4, z5], n, .struct [0, 1, 2, 3, 4, 5]⟩) parts = fillV (fillR [0, 1, 2, 3, 4, 5] tm [.prim z0, .prim z1, .prim z2, .prim z3, .prim z4, .prim z5] parts) := rfl
theorem arg_eX5 {S : Store} {i j : Nat} {a b : List Pg} {l : List Rc} {s : Int} {d : Bool} (h0 : getO S i = some ⟨3, a.map pA⟩) (h1 : getO S j = some ⟨3, b.map pA⟩) (hd : 5 = a.length) (hm : 5 = b.length) : Arg S true (.agg [.own i 3 0 5, .own j 3 0 5, recs l, I s, Bo d]) (.agg [pgs a, pgs b, recs l, I s, Bo d]) :=
  .agg _ _ (.cons _ _ _ _ (arg0_p h0 hd) (.cons _ _ _ _ (arg0_p h1 hm) (.cons _ _ _ _ (.same _ rfl) (.cons _ _ _ _ (.same _ rfl) (.cons _ _ _ _ (.same _ rfl) .nil)))))
end
section
attribute [local go_sem] slt_r slt_I slt_p ty_rd ty_ev
theorem ty_evs : tiOf Tryz.prog 134 = some ⟨false, [.slice none 0 0], 24, .slice 155⟩ := by kernel_rfl
attribute [local go_sem] ty_evs
abbrev oL (l : List Rc) : Option AObj := some ⟨8, l.map rA⟩
@[go_sem] theorem rho22 {a b n : Nat} : rho [a, b] n 2 = n := by simp [rho]
@[go_sem] theorem rho12 {a n : Nat} : rho [a] n 2 = n + 1 := by simp [rho]
@[go_sem] theorem rho13 {a n : Nat} : rho [a] n 3 = n + 2 := by simp [rho]
@[go_sem] theorem rnO_r {ρ : Nat → Nat} {l : List Rc} : rnO ρ (some ⟨8, l.map rA⟩) = some ⟨8, l.map rA⟩ := by
  unfold rnO
  simp only [Option.map_some, List.map_map]
  congr 2
@[go_sem] theorem rn1_any {ρ : Nat → Nat} : AV.rn1 ρ .any = .any := rfl
@[go_sem] theorem putS_nil' {ρ : Nat → Nat} {o : Option AObj} {S T : Store} : putS ρ [] (o :: S) T = T ++ (rnO ρ o :: S.map (rnO ρ)) := by simp [putS]
@[go_sem] theorem scT_two {i j : Nat} {tm : List AV} : scT [i, j] tm = tm.map (AV.sc [i, j]) := rfl
@[go_sem] theorem scS_two {i j : Nat} {S : Store} : scS [i, j] S = S.map (Option.map fun o => ⟨o.z, o.es.map (AV.sc1 [i, j])⟩) := rfl
@[go_sem] theorem sc_ref2 {i j k z o s : Nat} : AV.sc [i, j] (.ref k z o s) = if k = i then .junk else if k = j then .junk else .ref k z o s := by
  by_cases h : k = i <;> by_cases h' : k = j <;> simp [AV.sc, AV.sc1, AV.sc0, h, h']
@[go_sem] theorem sc_own2 {i j k z o s : Nat} : AV.sc [i, j] (.own k z o s) = if k = i then .junk else if k = j then .junk else .own k z o s := by
  by_cases h : k = i <;> by_cases h' : k = j <;> simp [AV.sc, AV.sc1, AV.sc0, h, h']
@[go_sem] theorem sc0_own2 {i j k z o s : Nat} : AV.sc0 [i, j] (.own k z o s) = if k = i then .junk else if k = j then .junk else .own k z o s := by
  by_cases h : k = i <;> by_cases h' : k = j <;> simp [AV.sc0, h, h']
@[go_sem] theorem sc0_ref2 {i j k z o s : Nat} : AV.sc0 [i, j] (.ref k z o s) = if k = i then .junk else if k = j then .junk else .ref k z o s := by
  by_cases h : k = i <;> by_cases h' : k = j <;> simp [AV.sc0, h, h']
@[go_sem] theorem sc1_own2 {i j k z o s : Nat} : AV.sc1 [i, j] (.own k z o s) = if k = i then .junk else if k = j then .junk else .own k z o s := by
  by_cases h : k = i <;> by_cases h' : k = j <;> simp [AV.sc1, AV.sc0, h, h']
@[go_sem] theorem sc1_ev {mv : List Nat} {l : List Ev} : (l.map evA).map (AV.sc1 mv) = l.map evA := by rw [List.map_map]; rfl
@[go_sem] theorem pur_ev {i : Nat} {l : List Ev} : (l.map evA).all (AV.pur i) = true := by simp [AV.pur, AV.nm0, AV.pur0]
@[go_sem] theorem pur_ev1 {i : Nat} {a b c d n : Int} {v : List Int} : AV.pur i (.agg [I a, I b, I c, I d, I n, ints v]) = true := rfl
@[go_sem] theorem app_ev {l : List Ev} {a b c d n : Int} {v : List Int} : l.map evA ++ [.agg [I a, I b, I c, I d, I n, ints v]] = (l ++ [(⟨a, b, c, d, n, v⟩ : Ev)]).map evA := by simp
theorem a2_r (K : List Nat) (l : List Rc) : All2 (Rn1 K) (l.map rA) (l.map rA) := by
  induction l with
  | nil => exact .nil
  | cons x l ih => exact .cons _ _ _ _ (.agg _ _ (a2_same rfl)) ih
end
section
attribute [local go_sem] slt_r slt_I slt_p ty_rd ty_ev ty_evs
@[go_sem] theorem buildO_2 {tm : List AV} {b : Bool} {z0 z1 : Value} {n : Nat} {parts : List (Nat × Operand)} : buildO tm (some ⟨b, [z0, z1], n, .struct [0, 1]⟩) parts = fillV (fillR [0, 1] tm [.prim z0, .prim z1] parts) := rfl
end
section
attribute [local go_sem] slt_r slt_I slt_p ty_rd ty_ev ty_evs
@[go_sem] theorem rho0 {n i : Nat} : rho [] n i = n + i := by simp [rho]
/-- What a drawn engine is like. -/
structure Eng.dr (e : Eng) : Prop where
  disk : e.disk.length = 5
  mem : e.mem.length = 5
  log : e.log.length ≤ 152
  dv : ∀ p ∈ e.disk, p.vals.length ≤ 3
  mv : ∀ p ∈ e.mem, p.vals.length ≤ 3
theorem rd_pgs {K : List Nat} {S : Store} {n0 i : Nat} {ps : List Pg} (hi : n0 ≤ i) (hK : i ∉ K) (ho : getO S i = some ⟨3, ps.map pA⟩) (hl : ps.length = 5) : Rd0 K S n0 (.own i 3 0 5) (pgs ps) :=
  .drop i 3 0 5 _ _ hi hK ho rfl (by simp [hl]) (by have := isDs_p ps; simpa [List.take_of_length_le, hl] using this)
theorem fin_drawn {r r' : AV} {S : Store} {mv : List Nat} {Q : AV → Store → List Nat → Prop} (hr : RdT [] S 0 r r') (h : Q r' [] []) : Fin 0 r S mv Q :=
  fin_drop [] [] (by simp) rfl (by decide) (fun j i h => by cases h) (fun i hi => absurd hi (Nat.not_lt_zero _)) hr h
end
end Go.Proofs.YtfcnajhanjhonaaGreat.Am
end
section
set_option linter.unusedVariables false
set_option linter.unusedSimpArgs false
set_option maxRecDepth 100000
set_option maxHeartbeats 8000000
namespace Go.Proofs.YtfcnajhanjhonaaGreat.Am
open Go Go.RowKit Go.Proofs
attribute [local congr] opsP_congr codeP_congr AWP_congr afterR_congr preP_congr afterPre_congr gPre_congr gOps_congr condP_congr stepE_congr
attribute [local go_sem] ty_int ty_bool ty_str ty_u8 ty_ints ty_bytes ty_page ty_pages ty_lpage ty_lpages ty_rec ty_recs ty_lrec ty_lrecs ty_eng ty_leng
attribute [local go_sem] true_and and_true beq_true' beq_false' toNat_cast Int.natCast_nonneg Bool.not_not Bool.not_true Bool.not_false decide_true decide_false Bool.or_false Bool.false_or Bool.or_true Bool.true_or Bool.and_false Bool.false_and Nat.zero_add Int.toNat_of_nonneg wrap_succ wrap_m1 wrap_nat succ_m1 cast0 succ_pos' succ_ne' succ_bne' ge_iff_le gt_iff_lt if_true if_false
attribute [local go_sem] slt_r slt_I slt_p ty_rd ty_ev ty_evs
theorem okI (e : Eng) (h : e.small) : Fn1 Tryz.prog 33 [eA e] (Bo (okE e)) := EngineOkI_fn lastC lastOfC recC (pagesC lastC) e h.disk h.mem h.log h.dv h.mv
theorem okS (e : Eng) (h : e.small) : Fn1 Tryz.prog 21 [eA e] (Bo (okE e)) := EngineOkS_fn e h.disk h.mem h.log
end Go.Proofs.YtfcnajhanjhonaaGreat.Am
end
section
set_option linter.unusedVariables false
set_option linter.unusedSimpArgs false
set_option maxRecDepth 100000
namespace Go.Proofs.YtfcnajhanjhonaaGreat.Am
open Go Go.RowKit Go.Proofs Go.ChangeShapes Go.WideShapes
section

end
section
section
variable {H : Type} {enc : TypeId × Value → H} {w : World}
theorem open_ints {r : Reach} {b0 : Nat} {v : Value} {d : DataW H} {ps : List MemPlace} (hval : Value.okWide Tryz.prog w r b0 26 v) (hd : DataW.Trod enc Tryz.prog w 0 (fun _ => true) true 26 v d ps)
    (hw : (d.weights Tryz.prog 26).all (· ≤ reachBytes) = true) : ∃ l : List Int, l.length < 4611686018427387904 ∧ Rep okT w (fun i => i) [] (ints l) v := by
  obtain ⟨a, len, cap, rfl⟩ := okWide_slice Tryz.underlying26 hval
  obtain ⟨fuel, hf⟩ := hd
  obtain ⟨l, hl, hr, hq⟩ := opens_ints (μ := fun i => i) _ _ _ _ hf
  obtain ⟨q1, q2⟩ := hq hw
  refine ⟨l, q1, ?_⟩
  obtain ⟨u, hu, hR⟩ := hr 0 _ rfl
  simp [Value.cells] at hu
  subst hu
  exact .sl _ _ _ hR
end
end
end Go.Proofs.YtfcnajhanjhonaaGreat.Am
end
section
set_option linter.unusedVariables false
set_option linter.unusedSimpArgs false
set_option maxRecDepth 100000
set_option maxHeartbeats 8000000
namespace Go.Proofs.YtfcnajhanjhonaaGreat.Am
open Go Go.RowKit Go.Proofs
attribute [local go_sem_proc] Nat.reduceAdd Nat.reduceSub Nat.reduceMul Nat.reduceLT Nat.reduceLeDiff Nat.reduceEqDiff Int.reduceBEq Int.reduceBNe Int.reduceNeg Int.reduceSub Int.reduceLE Int.reduceLT
attribute [local go_sem_proc ↓] reduceIte
attribute [local congr] opsP_congr codeP_congr AWP_congr afterR_congr preP_congr afterPre_congr gPre_congr gOps_congr condP_congr stepE_congr
attribute [local go_sem] ty_int ty_bool ty_str ty_u8 ty_ints ty_bytes ty_page ty_pages ty_lpage ty_lpages ty_rec ty_recs ty_lrec ty_lrecs ty_eng ty_leng
attribute [local go_sem] true_and and_true beq_true' beq_false' toNat_cast Int.natCast_nonneg Bool.not_not Bool.not_true Bool.not_false decide_true decide_false Bool.or_false Bool.false_or Bool.or_true Bool.true_or Bool.and_false Bool.false_and Nat.zero_add Int.toNat_of_nonneg wrap_succ wrap_m1 wrap_nat succ_m1 cast0 succ_pos' succ_ne' succ_bne' ge_iff_le gt_iff_lt if_true if_false
attribute [local go_sem] slt_r slt_I slt_p
end Go.Proofs.YtfcnajhanjhonaaGreat.Am
end
section
set_option linter.unusedVariables false
set_option linter.unusedSimpArgs false
set_option maxRecDepth 100000
set_option maxHeartbeats 8000000
namespace Go.Proofs.YtfcnajhanjhonaaGreat.Am
open Go Go.RowKit Go.Proofs
attribute [local congr] opsP_congr codeP_congr AWP_congr afterR_congr preP_congr afterPre_congr gPre_congr gOps_congr condP_congr stepE_congr
attribute [local go_sem] ty_int ty_bool ty_str ty_u8 ty_ints ty_bytes ty_page ty_pages ty_lpage ty_lpages ty_rec ty_recs ty_lrec ty_lrecs ty_eng ty_leng
attribute [local go_sem] true_and and_true beq_true' beq_false' toNat_cast Int.natCast_nonneg Bool.not_not Bool.not_true Bool.not_false decide_true decide_false Bool.or_false Bool.false_or Bool.or_true Bool.true_or Bool.and_false Bool.false_and Nat.zero_add Int.toNat_of_nonneg wrap_succ wrap_m1 wrap_nat succ_m1 cast0 succ_pos' succ_ne' succ_bne' ge_iff_le gt_iff_lt if_true if_false
section
attribute [local go_sem] slt_r slt_I slt_p
end
section
attribute [local go_sem] slt_r slt_I slt_p ty_rd ty_ev ty_evs
end
section
attribute [local go_sem] slt_r slt_I slt_p ty_rd ty_ev ty_evs
end
end Go.Proofs.YtfcnajhanjhonaaGreat.Am
end
section
set_option linter.unusedVariables false
set_option linter.unusedSimpArgs false
set_option maxRecDepth 100000
set_option maxHeartbeats 8000000
namespace Go.Proofs.YtfcnajhanjhonaaGreat.Am
open Go Go.RowKit Go.Proofs
attribute [local go_sem_proc] Nat.reduceAdd Nat.reduceSub Nat.reduceMul Nat.reduceLT Nat.reduceLeDiff Nat.reduceEqDiff Int.reduceBEq Int.reduceBNe Int.reduceNeg Int.reduceSub Int.reduceLE Int.reduceLT
attribute [local go_sem_proc ↓] reduceIte
attribute [local congr] opsP_congr codeP_congr AWP_congr afterR_congr preP_congr afterPre_congr gPre_congr gOps_congr condP_congr stepE_congr
attribute [local go_sem] ty_int ty_bool ty_str ty_u8 ty_ints ty_bytes ty_page ty_pages ty_lpage ty_lpages ty_rec ty_recs ty_lrec ty_lrecs ty_eng ty_leng
attribute [local go_sem] true_and and_true beq_true' beq_false' toNat_cast Int.natCast_nonneg Bool.not_not Bool.not_true Bool.not_false decide_true decide_false Bool.or_false Bool.false_or Bool.or_true Bool.true_or Bool.and_false Bool.false_and Nat.zero_add Int.toNat_of_nonneg wrap_succ wrap_m1 wrap_nat succ_m1 cast0 succ_pos' succ_ne' succ_bne' ge_iff_le gt_iff_lt if_true if_false
section
attribute [local go_sem] slt_r slt_I slt_p ty_rd ty_ev ty_evs yieldR_idx'
attribute [local congr] yieldR_congr nc_congr
@[local go_sem] theorem yieldR_loadA {α : Type} [Inhabited α] {zs : List Value} {n : Nat} {sh : Sh} {z0 : Nat} {f : α → AV} {l : List α} {z k sub : Nat} {v : AV} :
    yieldR (loadM ⟨true, zs, n, sh⟩ z0 f l z k sub) v = ((z0 = z ∧ k < l.length ∧ sub + zs.length ≤ z) ∧ .agg (((f (at' l (k : Int))).cells.drop sub).take zs.length) = v) := by
  unfold loadM
  rw [loadO_agg, yieldR_val, List.length_map]
  exact propext ⟨fun ⟨h, k⟩ => ⟨h, by rw [getM h.2.1] at k; exact k⟩, fun ⟨h, k⟩ => ⟨h, by rw [getM h.2.1]; exact k⟩⟩
end
section
attribute [local go_sem] slt_r slt_I slt_p ty_rd ty_ev ty_evs
end
end Go.Proofs.YtfcnajhanjhonaaGreat.Am
end
section
set_option linter.unusedVariables false
set_option linter.unusedSimpArgs false
set_option maxRecDepth 100000
set_option maxHeartbeats 8000000
namespace Go.Proofs.YtfcnajhanjhonaaGreat.Am
open Go Go.RowKit Go.Proofs
attribute [local congr] opsP_congr codeP_congr AWP_congr afterR_congr preP_congr afterPre_congr gPre_congr gOps_congr condP_congr stepE_congr
attribute [local go_sem] ty_int ty_bool ty_str ty_u8 ty_ints ty_bytes ty_page ty_pages ty_lpage ty_lpages ty_rec ty_recs ty_lrec ty_lrecs ty_eng ty_leng
attribute [local go_sem] true_and and_true beq_true' beq_false' toNat_cast Int.natCast_nonneg Bool.not_not Bool.not_true Bool.not_false decide_true decide_false Bool.or_false Bool.false_or Bool.or_true Bool.true_or Bool.and_false Bool.false_and Nat.zero_add Int.toNat_of_nonneg wrap_succ wrap_m1 wrap_nat succ_m1 cast0 succ_pos' succ_ne' succ_bne' ge_iff_le gt_iff_lt if_true if_false
attribute [local go_sem] slt_r slt_I slt_p ty_rd ty_ev ty_evs
end Go.Proofs.YtfcnajhanjhonaaGreat.Am
end
section
set_option linter.unusedVariables false
set_option linter.unusedSimpArgs false
set_option maxRecDepth 100000
set_option maxHeartbeats 8000000
namespace Go.Proofs.YtfcnajhanjhonaaGreat.Am
open Go Go.RowKit Go.Proofs
attribute [local go_sem_proc] Nat.reduceAdd Nat.reduceSub Nat.reduceMul Nat.reduceLT Nat.reduceLeDiff Nat.reduceEqDiff Int.reduceBEq Int.reduceBNe Int.reduceNeg Int.reduceSub Int.reduceLE Int.reduceLT
attribute [local go_sem_proc ↓] reduceIte
attribute [local congr] opsP_congr codeP_congr AWP_congr afterR_congr preP_congr afterPre_congr gPre_congr gOps_congr condP_congr stepE_congr
attribute [local go_sem] ty_int ty_bool ty_str ty_u8 ty_ints ty_bytes ty_page ty_pages ty_lpage ty_lpages ty_rec ty_recs ty_lrec ty_lrecs ty_eng ty_leng
attribute [local go_sem] true_and and_true beq_true' beq_false' toNat_cast Int.natCast_nonneg Bool.not_not Bool.not_true Bool.not_false decide_true decide_false Bool.or_false Bool.false_or Bool.or_true Bool.true_or Bool.and_false Bool.false_and Nat.zero_add Int.toNat_of_nonneg wrap_succ wrap_m1 wrap_nat succ_m1 cast0 succ_pos' succ_ne' succ_bne' ge_iff_le gt_iff_lt if_true if_false
section
attribute [local go_sem] slt_r slt_I slt_p ty_rd ty_ev ty_evs
end
section
attribute [local go_sem] slt_r slt_I slt_p ty_rd ty_ev ty_evs
/-- A function of an empty slice: for every value that an empty slice has. -/
theorem fn_empty {P : Program} {f : FuncId} {z : Nat} {R : AV → Store → Prop} (h : ∀ A c, Fn P f [.prim (.slice A 0 c)] R) : Fn P f [.sl z []] R := by
  refine ⟨(h none 0).1, fun ok μ w vs hok rs hl hr => ?_⟩
  have h0 := hr 0 (.sl z []) rfl
  obtain ⟨A, c, hv⟩ : ∃ A c, vs.getD 0 undef = .slice A 0 c := by
    generalize vs.getD 0 undef = v at h0
    cases h0 with
    | sl _ _ v hD =>
      cases hD with
      | sl _ _ n A c ad f hn hc hA hz0 hz h1 h2 =>
        simp only [List.length_nil] at hn
        subst hn
        exact ⟨A, c, rfl⟩
  refine (h A c).2 ok μ w vs hok rs hl fun j x hj => ?_
  rcases j with _ | j
  · cases hj
    rw [hv]
    exact .prim _ rfl
  · cases hj
/-- A nil slice that is handed back, as a slice of an object of its own. -/
theorem fin_nil {z : Nat} (hz : 0 < z) {mv : List Nat} {R : AV → Store → Prop} (h : R (.own 0 z 0 0) [some ⟨z, []⟩]) : Fin 0 (.prim (.slice none 0 0)) [] mv (fun r S' mv => R r S' ∧ mv = []) := by
  have hone : ∀ (i : Nat) (o : AObj), ([some ⟨z, []⟩] : Store)[i]? = some (some o) → o = ⟨z, []⟩ := by
    intro i o hi
    rcases i with _ | i
    · cases hi; rfl
    · cases hi
  refine ⟨.own 0 z 0 0, [some ⟨z, []⟩], [], ⟨h, rfl⟩, fun ok w0 μ0 S0 μ a w v tm h0 hr hv => ?_⟩
  have hS0 : S0 = [] := List.eq_nil_of_length_eq_zero h0
  subst hS0
  refine ⟨μ, ⟨fun i o hi hne => ?_, fun i o hi => ?_, fun i j oi oj hi hj hni hnj e => ?_⟩, ?_, fun b _ hl => ?_, by simp, fun i hi => by simp at hi⟩
  · rw [hone i o hi] at hne
    exact absurd rfl hne
  · rw [hone i o hi]
    exact ⟨hz, fun x hx => by simp at hx⟩
  · rw [hone i oi hi] at hni
    exact absurd rfl hni
  · cases hv
    exact .own0 0 z 0 none (by simp)
  · obtain ⟨i, o, hi, hne, _⟩ := hl
    rw [hone i o hi] at hne
    exact absurd rfl hne
theorem CloneR_own (l : List Rc) (hb : l.length < 1000000) : Fn Tryz.prog 144 [recs l] (fun r S => r = .own 0 8 0 l.length ∧ S = [oL l]) := by
  rcases l with _ | ⟨x, l⟩
  · refine fn_empty fun A c => ?_
    refine fn_of Tryz.func144 rfl rfl ?_
    rcases A with _ | A
    · simp -implicitDefEqProofs only [go_sem, Tryz.f144, Option.isNone_none]
      exact fin_nil (by decide) ⟨rfl, rfl⟩
    · simp -implicitDefEqProofs only [go_sem, Tryz.f144, Option.isNone_some]
      (repeat' (first | ((with_reducible first | refine gon ?_ ?_ | refine gos ?_ ?_ | refine cdn ?_ ?_ | refine cds ?_ ?_ | refine gpn ?_ ?_ | refine gps ?_ ?_) <;> intro h <;> (try simp only [dt, df, gi, gt] at h) <;> try simp -implicitDefEqProofs only [go_sem, *]) | ((with_reducible refine And.intro ?_ ?_); (· first | omega | (simp only [List.length_take]; omega)); try simp -implicitDefEqProofs only [go_sem, *]) | fail))
      exact fin_keep [0] (by simp) rfl (keep1 (ob := ⟨8, []⟩) rfl .nil) (rt_own _ rfl) ⟨rfl, rfl⟩
  · have h0 : 0 < (x :: l).length := by simp
    generalize x :: l = l at h0 hb
    refine fn_of Tryz.func144 rfl rfl ?_
    simp -implicitDefEqProofs only [go_sem, Tryz.f144]
    (repeat' (first | ((with_reducible first | refine gon ?_ ?_ | refine gos ?_ ?_ | refine cdn ?_ ?_ | refine cds ?_ ?_ | refine gpn ?_ ?_ | refine gps ?_ ?_) <;> intro h <;> (try simp only [dt, df, gi, gt] at h) <;> try simp -implicitDefEqProofs only [go_sem, *]) | ((with_reducible refine And.intro ?_ ?_); (· first | omega | (simp only [List.length_take]; omega)); try simp -implicitDefEqProofs only [go_sem, *]) | fail))
    exact fin_keep [0] (by simp) rfl (keep1 rfl (a2_r _ _)) (rt_own _ rfl) ⟨rfl, rfl⟩
def zeroE : Eng := ⟨[], [], [], 0, false⟩
theorem rd_ez {S : Store} {b : Bool} : RdT [] S 0 (.tup [.agg [.prim (.slice none 0 0), .prim (.slice none 0 0), .prim (.slice none 0 0), I 0, Bo false], Bo b]) (.tup [eA zeroE, Bo b]) :=
  .tup _ _ (.cons _ _ _ _ (.agg _ _ (.cons _ _ _ _ (.nil 3 (by decide)) (.cons _ _ _ _ (.nil 3 (by decide)) (.cons _ _ _ _ (.nil 8 (by decide)) (.cons _ _ _ _ (.rn _ _ (.same _ rfl)) (.cons _ _ _ _ (.rn _ _ (.same _ rfl)) .nil)))))) (.cons _ _ _ _ (.of _ _ (.rn _ _ (.same _ rfl))) .nil))
theorem rd_oX {S : Store} {i j : Nat} {ea eb : List Pg} {ec : List Rc} {es : Int} {ed b : Bool} (h1 : getO S i = some ⟨3, ea.map pA⟩) (h2 : getO S j = some ⟨3, eb.map pA⟩) (ha : ea.length = 5) (hb : eb.length = 5) : RdT [] S 0 (.tup [.agg [.own i 3 0 5, .own j 3 0 5, recs ec, I es, Bo ed], Bo b]) (.tup [eA ⟨ea, eb, ec, es, ed⟩, Bo b]) :=
  .tup _ _ (.cons _ _ _ _ (.agg _ _ (.cons _ _ _ _ (rd_pgs (Nat.zero_le _) (by simp) h1 ha) (.cons _ _ _ _ (rd_pgs (Nat.zero_le _) (by simp) h2 hb) (.cons _ _ _ _ (.rn _ _ (.same _ rfl)) (.cons _ _ _ _ (.rn _ _ (.same _ rfl)) (.cons _ _ _ _ (.rn _ _ (.same _ rfl)) .nil)))))) (.cons _ _ _ _ (.of _ _ (.rn _ _ (.same _ rfl))) .nil))
end
end Go.Proofs.YtfcnajhanjhonaaGreat.Am
end
section
set_option linter.unusedVariables false
set_option linter.unusedSimpArgs false
set_option maxRecDepth 100000
set_option maxHeartbeats 8000000
namespace Go.Proofs.YtfcnajhanjhonaaGreat.Am
open Go Go.RowKit Go.Proofs
attribute [local congr] opsP_congr codeP_congr AWP_congr afterR_congr preP_congr afterPre_congr gPre_congr gOps_congr condP_congr stepE_congr
attribute [local go_sem] ty_int ty_bool ty_str ty_u8 ty_ints ty_bytes ty_page ty_pages ty_lpage ty_lpages ty_rec ty_recs ty_lrec ty_lrecs ty_eng ty_leng
attribute [local go_sem] true_and and_true beq_true' beq_false' toNat_cast Int.natCast_nonneg Bool.not_not Bool.not_true Bool.not_false decide_true decide_false Bool.or_false Bool.false_or Bool.or_true Bool.true_or Bool.and_false Bool.false_and Nat.zero_add Int.toNat_of_nonneg wrap_succ wrap_m1 wrap_nat succ_m1 cast0 succ_pos' succ_ne' succ_bne' ge_iff_le gt_iff_lt if_true if_false
section
attribute [local go_sem] slt_r slt_I slt_p ty_rd ty_ev ty_evs
end
section
attribute [local go_sem] slt_r slt_I slt_p ty_rd ty_ev ty_evs
end
section
attribute [local go_sem] slt_r slt_I slt_p ty_rd ty_ev ty_evs
/-- Pages that undoing takes alike: both are fit, and their owners are the same. -/
structure Alike (q q' : List Pg) : Prop where
  l1 : q.length = 5
  l2 : q'.length = 5
  ok1 : ∀ k : Nat, k < 5 → (at' q (k : Int)).ok = true
  ok2 : ∀ k : Nat, k < 5 → (at' q' (k : Int)).ok = true
  own : ∀ k : Nat, k < 5 → (at' q (k : Int)).owner = (at' q' (k : Int)).owner
end
end Go.Proofs.YtfcnajhanjhonaaGreat.Am
end
section
set_option linter.unusedVariables false
set_option linter.unusedSimpArgs false
set_option maxRecDepth 100000
set_option maxHeartbeats 8000000
namespace Go.Proofs.YtfcnajhanjhonaaGreat.Am
open Go Go.RowKit Go.Proofs
attribute [local go_sem_proc] Nat.reduceAdd Nat.reduceSub Nat.reduceMul Nat.reduceLT Nat.reduceLeDiff Nat.reduceEqDiff Int.reduceBEq Int.reduceBNe Int.reduceNeg Int.reduceSub Int.reduceLE Int.reduceLT
attribute [local go_sem_proc ↓] reduceIte
attribute [local congr] opsP_congr codeP_congr AWP_congr afterR_congr preP_congr afterPre_congr gPre_congr gOps_congr condP_congr stepE_congr
attribute [local go_sem] ty_int ty_bool ty_str ty_u8 ty_ints ty_bytes ty_page ty_pages ty_lpage ty_lpages ty_rec ty_recs ty_lrec ty_lrecs ty_eng ty_leng
attribute [local go_sem] true_and and_true beq_true' beq_false' toNat_cast Int.natCast_nonneg Bool.not_not Bool.not_true Bool.not_false decide_true decide_false Bool.or_false Bool.false_or Bool.or_true Bool.true_or Bool.and_false Bool.false_and Nat.zero_add Int.toNat_of_nonneg wrap_succ wrap_m1 wrap_nat succ_m1 cast0 succ_pos' succ_ne' succ_bne' ge_iff_le gt_iff_lt if_true if_false
section
attribute [local go_sem] slt_r slt_I slt_p ty_rd ty_ev ty_evs
open Go.Lib in
end
section
attribute [local go_sem] slt_r slt_I slt_p ty_rd ty_ev ty_evs
def loadD (e : Eng) (tx page : Int) (vals : List Int) : Eng × Bool := if okE e = true then e.load tx page vals else (zeroE, false)
theorem ChangeLoadS_fn (e : Eng) (tx page : Int) (vals : List Int) (h : e.small) (hv : vals.length < 4611686018427387904) : Fn1 Tryz.prog 8 [eA e, I tx, I page, ints vals] (.tup [eA (loadD e tx page vals).1, Bo (loadD e tx page vals).2]) := by
  have c1 := okS e h
  refine fn1_of Tryz.func8 rfl rfl ?_
  unfold loadD
  rcases hok : okE e with _ | _
  · rw [if_neg (by simp)]
    rw [hok] at c1
    simp -implicitDefEqProofs only [go_sem, Tryz.f8]
    (repeat' (first | ((with_reducible first | refine gon ?_ ?_ | refine gos ?_ ?_ | refine cdn ?_ ?_ | refine cds ?_ ?_ | refine gpn ?_ ?_ | refine gps ?_ ?_) <;> intro h <;> (try simp only [dt, df, gi, gt] at h) <;> try simp -implicitDefEqProofs only [go_sem, *]) | ((with_reducible refine And.intro ?_ ?_); (· first | omega | (simp only [List.length_take]; omega)); try simp -implicitDefEqProofs only [go_sem, *]) | ((with_reducible refine enter_pu (c1) ?_ ?_ ?_); (· rfl); (· rfl); try simp -implicitDefEqProofs only [go_sem, *])))
    exact fin_drawn rd_ez ⟨⟨rfl, rfl⟩, rfl⟩
  rw [if_pos rfl]
  rw [hok] at c1
  have hi := inv_of_ok hok
  have hi2 := load_inv hi tx page vals
  have c2 := l11Copy_c e hi.disk.sz hi.mem.sz (by have := hi.len; omega)
  have c3 := l12Load_c e tx page vals hi hv
  have ha := hi2.disk.len
  have hb := hi2.mem.len
  generalize e.load tx page vals = q at c3 ha hb ⊢
  obtain ⟨⟨qa, qb, qc, qs, qd⟩, b⟩ := q
  simp only at c3 ha hb ⊢
  clear hok hi hi2
  simp -implicitDefEqProofs only [go_sem, Tryz.f8]
  (repeat' (first | ((with_reducible first | refine gon ?_ ?_ | refine gos ?_ ?_ | refine cdn ?_ ?_ | refine cds ?_ ?_ | refine gpn ?_ ?_ | refine gps ?_ ?_) <;> intro h <;> (try simp only [dt, df, gi, gt] at h) <;> try simp -implicitDefEqProofs only [go_sem, *]) | ((with_reducible refine And.intro ?_ ?_); (· first | omega | (simp only [List.length_take]; omega)); try simp -implicitDefEqProofs only [go_sem, *]) | first | ((with_reducible refine enter_pu (c1) ?_ ?_ ?_); (· rfl); (· rfl); try simp -implicitDefEqProofs only [go_sem, *]) | ((with_reducible refine enter_fn (c2) ?_ ?_); (· rfl); try simp -implicitDefEqProofs only [go_sem, *]) | ((with_reducible refine enter_at1 [2, 3] (M2 := []) (c3) (by decide) ?_ ?_ rfl ?_); (· repeat (first | exact Keeps.nil | (refine Keeps.cons _ _ _ _ _ rfl rfl ?_ ?_; (· first | exact a2_p _ _ | exact a2_1 rfl | exact a2_I _ _)))); (· repeat (first | exact All2.nil | (refine All2.cons _ _ _ _ ?_ ?_; (· first | exact rnT_eX rfl rfl | exact rnT_prim | exact rnT_sl | exact rnT_ref rfl | exact rnT_agg rfl | exact rnT_own rfl | exact rnT_eX5 rfl rfl)))); try simp -implicitDefEqProofs only [go_sem, *])))
  all_goals exact fin_drawn (rd_oX rfl rfl ha hb) ⟨⟨rfl, rfl⟩, rfl⟩
end
end Go.Proofs.YtfcnajhanjhonaaGreat.Am
end
section
set_option linter.unusedVariables false
set_option linter.unusedSimpArgs false
set_option maxRecDepth 100000
set_option maxHeartbeats 8000000
namespace Go.Proofs.YtfcnajhanjhonaaGreat.Am
open Go Go.RowKit Go.Proofs
attribute [local congr] opsP_congr codeP_congr AWP_congr afterR_congr preP_congr afterPre_congr gPre_congr gOps_congr condP_congr stepE_congr
attribute [local go_sem] ty_int ty_bool ty_str ty_u8 ty_ints ty_bytes ty_page ty_pages ty_lpage ty_lpages ty_rec ty_recs ty_lrec ty_lrecs ty_eng ty_leng
attribute [local go_sem] true_and and_true beq_true' beq_false' toNat_cast Int.natCast_nonneg Bool.not_not Bool.not_true Bool.not_false decide_true decide_false Bool.or_false Bool.false_or Bool.or_true Bool.true_or Bool.and_false Bool.false_and Nat.zero_add Int.toNat_of_nonneg wrap_succ wrap_m1 wrap_nat succ_m1 cast0 succ_pos' succ_ne' succ_bne' ge_iff_le gt_iff_lt if_true if_false
section
theorem see_arg {S : Store} {b : Bool} {x y : AV} (h : Arg S b x y) : Sees S b x y := by intro ok ok' w μ v rs h1 h2 hr; exact h.sound rs h1 h2 hr
theorem see_own {S : Store} {i z off len : Nat} {o : AObj} {ds : List D} (ho : getO S i = some o) (hz : o.z = z) (hl : off + len ≤ o.es.length) (hlen : ds.length = len)
    (h : ∀ (k : Nat) (d : D), ds[k]? = some d → ∃ x, o.es[off + k]? = some x ∧ d.cells.length = x.cells.length ∧ (∀ y ∈ d.cells, y.scalar = true) ∧ ∀ (j : Nat) (y : D), d.cells[j]? = some y → ∃ c, x.cells[j]? = some c ∧ Sees S true c y.av0) :
    Sees S true (.own i z off len) (.sl z ds) := by
  intro ok ok' w μ v rs h1 h2 hr
  subst hz
  have hi := getO_some ho
  obtain ⟨hz0, hsiz⟩ := rs.siz i o hi
  cases hr with
  | own0 _ _ _ A hi' =>
    have : ds = [] := List.eq_nil_of_length_eq_zero hlen
    subst this
    exact .sl _ _ _ (.sl _ [] 0 A 0 default (fun _ _ => undef) rfl (Nat.le_refl _) (fun h => absurd rfl h) hz0 (fun i x hi => by simp at hi) (fun i x j y hi => by simp at hi) (fun i x j y hi => by simp at hi))
  | own _ _ _ _ c cs ty hi' h0 hc hb' hsz =>
    have hne : o.es ≠ [] := by intro e; simp [e] at hl; omega
    have hlive : liveB S μ (μ i) := ⟨i, o, hi, hne, rfl⟩
    have hget : ∀ (k : Nat) (d : D), ds[k]? = some d → k < len ∧ ∃ x, o.es[off + k]? = some x ∧ o.es.getD (off + k) .any = x ∧ d.cells.length = x.cells.length ∧ (∀ y ∈ d.cells, y.scalar = true) ∧ ∀ (j : Nat) (y : D), d.cells[j]? = some y → ∃ c, x.cells[j]? = some c ∧ Sees S true c y.av0 := by
      intro k d hk
      obtain ⟨x, hx, hd⟩ := h k d hk
      exact ⟨by rw [← hlen]; exact (List.getElem?_eq_some_iff.1 hk).1, x, hx, by simp [List.getD, hx], hd⟩
    refine .sl _ _ _ (.sl _ ds len _ c ⟨μ i, off * o.z, none⟩ (fun k j => (w.cell? ⟨μ i, (off + k) * o.z + j, none⟩).getD undef) hlen.symm (by omega) (fun _ => ⟨rfl, ⟨h2 rfl _ hlive, not_live_nil _ _⟩, rfl⟩) hz0 ?_ ?_ ?_)
    · intro k d hk
      obtain ⟨hlt, x, hx, _, c1, c2, _⟩ := hget k d hk
      exact ⟨by rw [c1]; exact (hsiz x (List.mem_of_getElem? hx)).1, c2⟩
    · intro k d j e hk hj
      obtain ⟨hlt, x, hx, _, c1, _, _⟩ := hget k d hk
      have hjz : j < o.z := by rw [← (hsiz x (List.mem_of_getElem? hx)).1, ← c1]; exact (List.getElem?_eq_some_iff.1 hj).1
      obtain ⟨_, v, _, hv, _⟩ := rs.cellAt hi (k := off + k) (j := j) (by omega) hjz
      rw [Addr.add_lit, ← Nat.add_assoc, ← Nat.add_mul, hv]
      rfl
    · intro k d j e hk hj
      obtain ⟨hlt, x, hx, hx', c1, c2, c3⟩ := hget k d hk
      have hjz : j < o.z := by rw [← (hsiz x (List.mem_of_getElem? hx)).1, ← c1]; exact (List.getElem?_eq_some_iff.1 hj).1
      obtain ⟨y, v, hy, hv, hr, _⟩ := rs.cellAt hi (k := off + k) (j := j) (by omega) hjz
      obtain ⟨c, hc', hs⟩ := c3 j e hj
      rw [hx', hc'] at hy
      cases hy
      rw [hv]
      exact av0_repD (S := []) (μ := μ) (c2 e (List.mem_of_getElem? hj)) (fun c hc hl => ⟨hc, hl⟩) (hs ok ok' w μ v rs h1 h2 hr)
theorem see_agg {S : Store} {b : Bool} {xs ys : List AV} (h : All2 (Sees S b) xs ys) (hy : ys.all AV.scalar = true) : Sees S b (.agg xs) (.agg ys) := by
  intro ok ok' w μ v rs h1 h2 hr
  cases hr with
  | agg _ vs hl hs hr =>
    refine .agg ys vs (by rw [h.len]; exact hl) (fun y hm => List.all_eq_true.1 hy y hm) ?_
    intro j y v hj hv
    obtain ⟨x, hx, ha⟩ := h.get j y hj
    exact ha ok ok' w μ v rs h1 h2 (hr j x v hx hv)
theorem see_tup {S : Store} {b : Bool} {xs ys : List AV} (h : All2 (Sees S b) xs ys) : Sees S b (.tup xs) (.tup ys) := by
  intro ok ok' w μ v rs h1 h2 hr
  cases hr with
  | tup _ vs hl hr =>
    refine .tup ys vs (by rw [h.len]; exact hl) ?_
    intro j y v hj hv
    obtain ⟨x, hx, ha⟩ := h.get j y hj
    exact ha ok ok' w μ v rs h1 h2 (hr j x v hx hv)
theorem see_ref {S : Store} {i z k sub : Nat} {o : AObj} {ds : List D} (ho : getO S i = some o) (hz : o.z = z) (hk : k < o.es.length) (hs : sub < z) (hl : ds.length = (o.es.getD k .any).cells.length - sub)
    (h : ∀ (j : Nat) (d : D), ds[j]? = some d → ∃ c, (o.es.getD k .any).cells[sub + j]? = some c ∧ Sees S true c d.av0) (hd : ∀ d ∈ ds, d.scalar = true) : Sees S true (.ref i z k sub) (.ro ds) := by
  intro ok ok' w μ v rs h1 h2 hr
  subst hz
  have hi := getO_some ho
  have hne : o.es ≠ [] := by intro e; simp [e] at hk
  have hlive : liveB S μ (μ i) := ⟨i, o, hi, hne, rfl⟩
  have hsz := ((rs.siz i o hi).2 (o.es.getD k .any) (by simp [List.getD, List.getElem?_eq_getElem hk])).1
  cases hr with
  | ref _ _ _ _ hi' =>
    have hcell : ∀ (j : Nat) (d : D), ds[j]? = some d → ∃ y v, w.cell? ⟨μ i, k * o.z + (sub + j), none⟩ = some v ∧ Rep ok w μ S y v ∧ Sees S true y d.av0 := by
      intro j d hj
      obtain ⟨y, hy, ha⟩ := h j d hj
      have hjz : sub + j < o.z := by rw [← hsz]; exact (List.getElem?_eq_some_iff.1 hy).1
      obtain ⟨y', v, hy', hv, hr, _⟩ := rs.cellAt hi hk hjz
      rw [hy] at hy'
      cases hy'
      exact ⟨y, v, hv, hr, ha⟩
    refine .ro ds ⟨μ i, k * o.z + sub, none⟩ (fun j => (w.cell? ⟨μ i, k * o.z + (sub + j), none⟩).getD undef) rfl (by omega) ⟨h2 rfl _ hlive, not_live_nil _ _⟩ ?_ ?_
    · intro j d hj
      obtain ⟨y, v, hv, _⟩ := hcell j d hj
      refine ⟨hd d (List.mem_of_getElem? hj), ?_⟩
      rw [Addr.add_lit, Nat.add_assoc, hv]
      rfl
    · intro j d hj
      obtain ⟨y, v, hv, hr, ha⟩ := hcell j d hj
      rw [hv]
      exact av0_repD (S := []) (μ := μ) (hd d (List.mem_of_getElem? hj)) (fun c hc hl => ⟨hc, hl⟩) (ha ok ok' w μ v rs h1 h2 hr)
section
variable {P : Program}
/-- A call that sees own objects, and hands back objects of its own. -/
theorem enter_see {f : FuncId} {args args' : List AV} {r0 : AV} {Sr : Store} {d : Tmp} {tm : List AV} {S : Store} {mv : List Nat} {K : St → Prop} (h : Fn P f args' (fun r S' => r = r0 ∧ S' = Sr)) (ha : All2 (Sees S true) args args')
    (hf : r0.flat = true) (hs : ∀ (o : AObj), some o ∈ Sr → ∀ x ∈ o.es, x.flat1 = true) (hk : K ⟨tm.set d (r0.sh S.length), S ++ shS S.length Sr, mv⟩) : afterR P (.enter f args) (some d) ⟨tm, S, mv⟩ K := by
  refine enter_any (h.frameG true ha (fun _ r S' hR => ?_)) ?_
  · obtain ⟨rfl, rfl⟩ := hR
    exact ⟨hf, hs⟩
  rintro r S' mv' ⟨r1, S1, ⟨rfl, rfl⟩, rfl, rfl, rfl⟩
  exact hk
theorem enter_see1 {f : FuncId} {args args' : List AV} {v : AV} {d : Tmp} {tm : List AV} {S : Store} {mv : List Nat} {K : St → Prop} (h : Fn1 P f args' v) (ha : All2 (Sees S true) args args') (hf : v.flat = true) (hs : v.sf = true) (hk : K ⟨tm.set d v, S, mv⟩) :
    afterR P (.enter f args) (some d) ⟨tm, S, mv⟩ K := by
  refine enter_see h ha hf (fun o ho => by cases ho) ?_
  rw [sf_spec hs]
  simpa [shS] using hk
/-- A contract's own objects as data. -/
theorem fn1_of_own {f : FuncId} {args : List AV} {r0 v : AV} {S0 : Store} (h : Fn P f args (fun r S => r = r0 ∧ S = S0)) (hs : Sees S0 true r0 v) : Fn1 P f args v := by
  refine ⟨h.1, fun ok μ w vs hok rs hl hr => (h.2 ok μ w vs hok rs hl hr).mono ?_⟩
  rintro e w' ⟨r, u, S', mv, μ', rfl, ⟨⟨rfl, rfl⟩, rfl⟩, rs', hr', md, lv, ln, mu⟩
  refine ⟨v, u, [], [], μ', rfl, ⟨⟨rfl, rfl⟩, rfl⟩, ⟨fun i o hi => by simp at hi, fun i o hi => by simp at hi, fun i j oi oj hi => by simp at hi⟩, ?_, md, fun b _ hl => absurd hl (not_live_nil _ _), by simp, fun i hi => by simp at hi⟩
  refine hs ok ok w' μ' u rs' (fun c hc _ => hc) (fun _ c hc => ?_) hr'
  rcases Nat.lt_or_ge c w.heap.size with hlt | hge
  · exact absurd (lv c hlt hc) (not_live_nil _ _)
  · exact hok c hge
end
/-- Names objects below m alone (and is no function value). -/
def AV.cl0 (m : Nat) : AV → Bool
  | .own i _ _ _ => decide (i < m)
  | .ref i _ _ _ => decide (i < m)
  | x => x.pur0
def AV.cl1 (m : Nat) : AV → Bool
  | .agg xs => xs.all (AV.cl0 m)
  | x => x.cl0 m
def AV.cl (m : Nat) : AV → Bool
  | .tup xs => xs.all (AV.cl1 m)
  | x => x.cl1 m
def clO (m : Nat) : Option AObj → Bool
  | none => false
  | some o => o.es.all (AV.cl1 m)
theorem cl0_rn {n m : Nat} {x : AV} (h : x.cl0 m = true) : Rn0 (List.range' n m) (x.sh0 n) x := by
  have hk : ∀ i, i < m → (List.range' n m)[i]? = some (i + n) := fun i hi => by rw [List.getElem?_range' hi]; simp [Nat.add_comm]
  cases x <;> simp only [AV.cl0, AV.pur0, decide_eq_true_eq, Bool.false_eq_true] at h
  all_goals first
    | exact Rn0.same _ rfl
    | exact Rn0.ref _ _ _ _ _ (hk _ h)
    | exact Rn0.own _ _ _ _ _ (hk _ h)
theorem a2_map {R : AV → AV → Prop} {f : AV → AV} : ∀ {xs : List AV}, (∀ x ∈ xs, R (f x) x) → All2 R (xs.map f) xs
  | [], _ => .nil
  | x :: xs, h => .cons _ _ _ _ (h x (by simp)) (a2_map fun y hy => h y (by simp [hy]))
theorem cl1_rn {n m : Nat} {x : AV} (h : x.cl1 m = true) : Rn1 (List.range' n m) (x.sh1 n) x := by
  cases x with
  | agg xs =>
    simp only [AV.cl1, List.all_eq_true] at h
    exact .agg _ _ (a2_map fun y hy => cl0_rn (h y hy))
  | tup xs => simp [AV.cl1, AV.cl0, AV.pur0] at h
  | clo g xs => simp [AV.cl1, AV.cl0, AV.pur0] at h
  | any => simp [AV.cl1, AV.cl0, AV.pur0] at h
  | _ => (simp only [AV.cl1] at h; simp only [AV.sh1]; exact .of _ _ (cl0_rn h))
theorem cl_rn {n m : Nat} {x : AV} (h : x.cl m = true) : RnT (List.range' n m) (x.sh n) x := by
  cases x with
  | tup xs =>
    simp only [AV.cl, List.all_eq_true] at h
    exact .tup _ _ (a2_map fun y hy => cl1_rn (h y hy))
  | _ => (simp only [AV.cl] at h; simp only [AV.sh]; exact .of _ _ (cl1_rn h))
theorem rho_range {n m N i : Nat} (h : i < m) : rho (List.range' n m) N i = i + n := by
  unfold rho
  rw [List.getD, List.getElem?_range' h]
  simp [Nat.add_comm]
theorem cl0_sh {n m N : Nat} {x : AV} (h : x.cl0 m = true) : x.rn0 (rho (List.range' n m) N) = x.sh0 n := by
  cases x <;> simp only [AV.cl0, AV.pur0, decide_eq_true_eq, Bool.false_eq_true] at h
  all_goals first
    | rfl
    | (simp only [AV.rn0, AV.sh0, rho_range h])
theorem cl1_sh {n m N : Nat} {x : AV} (h : x.cl1 m = true) : x.rn1 (rho (List.range' n m) N) = x.sh1 n := by
  cases x with
  | agg xs =>
    simp only [AV.cl1, List.all_eq_true] at h
    simp only [AV.rn1, AV.sh1]
    congr 1
    exact List.map_congr_left fun y hy => cl0_sh (h y hy)
  | tup xs => simp [AV.cl1, AV.cl0, AV.pur0] at h
  | clo g xs => simp [AV.cl1, AV.cl0, AV.pur0] at h
  | any => simp [AV.cl1, AV.cl0, AV.pur0] at h
  | _ => (simp only [AV.cl1] at h; simp only [AV.rn1, AV.sh1]; exact cl0_sh h)
theorem cl_sh {n m N : Nat} {x : AV} (h : x.cl m = true) : x.rn (rho (List.range' n m) N) = x.sh n := by
  cases x with
  | tup xs =>
    simp only [AV.cl, List.all_eq_true] at h
    simp only [AV.rn, AV.sh]
    congr 1
    exact List.map_congr_left fun y hy => cl1_sh (h y hy)
  | _ => (simp only [AV.cl] at h; simp only [AV.rn, AV.sh]; exact cl1_sh h)
theorem clO_sh {n m N : Nat} {S : Store} (h : S.all (clO m) = true) : S.map (rnO (rho (List.range' n m) N)) = shS n S := by
  unfold shS
  refine List.map_congr_left fun o ho => ?_
  rw [List.all_eq_true] at h
  cases o with
  | none => rfl
  | some o =>
    have := h _ ho
    simp only [clO, List.all_eq_true] at this
    simp only [rnO, Option.map_some]
    congr 2
    exact List.map_congr_left fun x hx => cl1_sh (this x hx)
theorem putS_row (ρ : Nat → Nat) : ∀ (X1 X A B : Store), X1.length = X.length → putS ρ (List.range' A.length X.length) X1 (A ++ X ++ B) = A ++ X1.map (rnO ρ) ++ B
  | [], [], A, B, _ => by simp [putS]
  | o :: X1, x :: X, A, B, h => by
    simp only [List.length_cons] at h ⊢
    rw [List.range'_succ, putS]
    have e : (A ++ x :: X ++ B).set A.length (rnO ρ o) = (A ++ [rnO ρ o]) ++ X ++ B := by
      rw [List.append_assoc, List.set_append_right _ _ (Nat.le_refl _), Nat.sub_self]
      simp
    have := putS_row ρ X1 X (A ++ [rnO ρ o]) B (by omega)
    rw [List.length_append, List.length_cons, List.length_nil] at this
    rw [e, this]
    simp
  | [], _ :: _, _, _, h => by simp at h
  | _ :: _, [], _, _, h => by simp at h
theorem keeps_row {n m : Nat} {T : Store} : ∀ (X0 : Store) (a : Nat), X0.all (clO m) = true → (∀ i, i < X0.length → T[a + i]? = (shS n X0)[i]?) → Keeps (List.range' n m) T (List.range' a X0.length) X0
  | [], a, _, _ => .nil
  | none :: X0, a, h, _ => by simp [clO] at h
  | some o :: X0, a, h, hT => by
    rw [List.all_cons, Bool.and_eq_true] at h
    rw [List.length_cons, List.range'_succ]
    refine .cons _ _ ⟨o.z, o.es.map (AV.sh1 n)⟩ _ _ ?_ rfl ?_ (keeps_row X0 (a + 1) h.2 fun i hi => ?_)
    · have := hT 0 (by simp)
      rw [Nat.add_zero] at this
      rw [this]
      rfl
    · have h1 := h.1
      simp only [clO, List.all_eq_true] at h1
      exact a2_map fun x hx => cl1_rn (h1 x hx)
    · have := hT (i + 1) (by simp; omega)
      rw [show a + 1 + i = a + (i + 1) by omega, this]
      rfl
theorem shS_len {n : Nat} {X : Store} : (shS n X).length = X.length := by simp [shS]
theorem mid_get {A X B : Store} {i : Nat} (h : i < X.length) : (A ++ X ++ B)[A.length + i]? = X[i]? := by
  rw [List.append_assoc, List.getElem?_append_right (by omega), Nat.add_sub_cancel_left, List.getElem?_append_left h]
theorem a2_cl {n m : Nat} : ∀ {xs : List AV}, xs.all (AV.cl m) = true → All2 (RnT (List.range' n m)) (xs.map (AV.sh n)) xs
  | [], _ => .nil
  | x :: xs, h => by
    rw [List.all_cons, Bool.and_eq_true] at h
    exact .cons _ _ _ _ (cl_rn h.1) (a2_cl h.2)
section
variable {P : Program}
/-- A call over objects that lie in a row in the caller's store; it makes none. -/
theorem enter_mid (n : Nat) {f : FuncId} {args args' : List AV} {A X0 X1 B T : Store} {r : AV} {d : Tmp} {tm : List AV} {mv : List Nat} {Kont : St → Prop} (h : AFn1 P f args' X0 r X1 []) (hT : T = A ++ shS n X0 ++ B) (hn : A.length = n) (hl : X1.length = X0.length)
    (h0 : X0.all (clO X0.length) = true) (h1 : X1.all (clO X0.length) = true) (hr : r.cl X0.length = true) (ha : args = args'.map (AV.sh n)) (hac : args'.all (AV.cl X0.length) = true) (hc : Kont ⟨tm.set d (r.sh n), A ++ shS n X1 ++ B, mv⟩) :
    afterR P (.enter f args) (some d) ⟨tm, T, mv⟩ Kont := by
  subst hT ha
  refine enter_at1 (List.range' n X0.length) h List.nodup_range' (keeps_row X0 n h0 fun i hi => ?_) (a2_cl hac) rfl ?_
  · rw [← hn]
    exact mid_get (by rw [shS_len]; exact hi)
  · rw [cl_sh hr]
    have := putS_row (rho (List.range' n X0.length) (A ++ shS n X0 ++ B).length) X1 (shS n X0) A B (by rw [shS_len]; exact hl)
    rw [shS_len, hn] at this
    show Kont ⟨tm.set d (r.sh n), putS _ _ X1 (A ++ shS n X0 ++ B), mv⟩
    rw [this, clO_sh h1]
    exact hc
end
/-- A function's end that hands on objects that lie in a row. -/
theorem fin_row (n : Nat) {A X0 B S : Store} {r r0 : AV} {mv : List Nat} {R : AV → Store → Prop} (hS : S = A ++ shS n X0 ++ B) (hn : A.length = n) (h0 : X0.all (clO X0.length) = true) (hr : r = r0.sh n) (hcl : r0.cl X0.length = true) (h : R r0 X0) :
    Fin 0 r S mv (fun r S' mv => R r S' ∧ mv = []) := by
  subst hS hr
  refine fin_keep (List.range' n X0.length) List.nodup_range' (by simp) ?_ (cl_rn hcl) h
  intro j i hj
  have hjl : j < X0.length := by simpa using (List.getElem?_eq_some_iff.1 hj).1
  rw [List.getElem?_range' hjl] at hj
  simp only [Nat.one_mul, Option.some.injEq] at hj
  subst hj
  have hx : X0[j]? = some X0[j] := List.getElem?_eq_getElem hjl
  rw [List.all_eq_true] at h0
  have hc := h0 _ (List.mem_of_getElem? hx)
  generalize X0[j] = x at hx hc
  cases x with
  | none => simp [clO] at hc
  | some o =>
    simp only [clO, List.all_eq_true] at hc
    refine ⟨⟨o.z, o.es.map (AV.sh1 n)⟩, o, ?_, hx, rfl, a2_map fun x hm => cl1_rn (hc x hm)⟩
    unfold getO
    rw [← hn, mid_get (by rw [shS_len]; exact hjl)]
    simp [shS, hx]
theorem fin_tail (n : Nat) {X0 S : Store} {r r0 : AV} {mv : List Nat} {R : AV → Store → Prop} (hS : S.drop n = shS n X0) (hn : n ≤ S.length) (h0 : X0.all (clO X0.length) = true) (hr : r = r0.sh n) (hcl : r0.cl X0.length = true) (h : R r0 X0) :
    Fin 0 r S mv (fun r S' mv => R r S' ∧ mv = []) :=
  fin_row n (A := S.take n) (X0 := X0) (B := []) (by rw [← hS, List.append_nil, List.take_append_drop]) (by rw [List.length_take]; omega) h0 hr hcl h
/-- As RnT; a value may be forgotten. -/
inductive RnA (K : List Nat) : AV → AV → Prop
  | rn (x y : AV) (h : RnT K x y) : RnA K x y
  | any (x : AV) : RnA K x .any
/-- A state whose objects K are kept alone, renumbered. -/
theorem wk_keep (K : List Nat) {n : Nat} {tm tm' : List AV} {S S' : Store} {mv : List Nat} (hn : K.Nodup) (hl : S'.length = K.length) (hnK : n ≤ K.length)
    (hS : ∀ (j i : Nat), K[j]? = some i → ∃ (o o' : AObj), getO S i = some o ∧ S'[j]? = some (some o') ∧ o'.z = o.z ∧ All2 (Rn1 K) o.es o'.es) (hm : ∀ i, i < n → K[i]? = some i) (ht : All2 (RnA K) tm tm') : WkN n ⟨tm, S, mv⟩ ⟨tm', S', mv⟩ := by
  intro ok w0 μ0 S0 μ a w h0 hr
  obtain ⟨μ', hμd⟩ : ∃ μ' : Nat → Nat, ∀ j, μ' j = μ (K.getD j 0) := ⟨_, fun j => rfl⟩
  have hμ : ∀ (j i : Nat), K[j]? = some i → μ' j = μ i := fun j i hj => by rw [hμd]; simp [List.getD, hj]
  obtain ⟨h1, h2⟩ := relS_keep hn hl (fun j i hj => by obtain ⟨o, o', a, b⟩ := hS j i hj; exact ⟨o, o', getO_some a, b⟩) hr.rs hμ
  refine ⟨μ', h1, hr.fr, hr.df, ?_, ?_, hr.md, fun b hb hl' => hr.lv b hb (h2 b hl'), ?_, ?_⟩
  · show a.tmps.size = tm'.length
    rw [ht.len]
    exact hr.sz
  · intro t y hy
    obtain ⟨x, hx, hxy⟩ := ht.get t y hy
    cases hxy with
    | rn _ h => exact h.sound h2 hl hμ (hr.tm t x hx)
    | any => exact .any _
  · show S0.length ≤ S'.length
    omega
  · intro i hi hc
    rw [hμ i i (hm i (by omega))]
    exact hr.mu i hi hc
end
section
/-- A page whose values are the object i. -/
structure Dq where
  i : Nat
  p : Pg
instance : Inhabited Dq := ⟨⟨0, default⟩⟩
abbrev dA (q : Dq) : AV := .agg [I q.p.lsn, I q.p.owner, .own q.i 1 0 q.p.vals.length]
def dps : Nat → List Pg → List Dq
  | _, [] => []
  | b, p :: ps => ⟨b, p⟩ :: dps (b + 1) ps
abbrev vO (p : Pg) : Option AObj := some ⟨1, p.vals.map I⟩
abbrev oD (b : Nat) (ps : List Pg) : Option AObj := some ⟨3, (dps b ps).map dA⟩
/-- Pages, from the place b on: the list, and each one's values. -/
def dP (b : Nat) (ps : List Pg) : Store := oD (b + 1) ps :: ps.map vO
abbrev dE (b : Nat) (e : Eng) : AV := .agg [.own b 3 0 e.disk.length, .own (b + (1 + e.disk.length)) 3 0 e.mem.length, .own (b + (2 + e.disk.length + e.mem.length)) 8 0 e.log.length, I e.safe, Bo e.down]
abbrev oR8 (l : List Rc) : Option AObj := some ⟨8, l.map rA⟩
def dS (b : Nat) (e : Eng) : Store := dP b e.disk ++ (dP (b + (1 + e.disk.length)) e.mem ++ [oR8 e.log])
theorem dps_len : ∀ (b : Nat) (ps : List Pg), (dps b ps).length = ps.length
  | _, [] => rfl
  | b, p :: ps => by simp [dps, dps_len (b + 1) ps]
theorem dps_get : ∀ (b : Nat) (ps : List Pg) (k : Nat), (dps b ps)[k]? = ps[k]?.map fun p => ⟨b + k, p⟩
  | _, [], k => by simp [dps]
  | b, p :: ps, 0 => by simp [dps]
  | b, p :: ps, k + 1 => by
    rw [dps, List.getElem?_cons_succ, dps_get (b + 1) ps k, List.getElem?_cons_succ, show b + 1 + k = b + (k + 1) by omega]
theorem dps_at {b : Nat} {ps : List Pg} {k : Nat} (h : k < ps.length) : at' (dps b ps) (k : Int) = ⟨b + k, at' ps (k : Int)⟩ := by
  simp [at', List.getD, dps_get, List.getElem?_eq_getElem h]
theorem dps_app : ∀ (b : Nat) (ps qs : List Pg), dps b (ps ++ qs) = dps b ps ++ dps (b + ps.length) qs
  | b, [], qs => by simp [dps]
  | b, p :: ps, qs => by
    rw [List.cons_append, dps, dps_app (b + 1) ps qs, dps, List.cons_append, List.length_cons, show b + 1 + ps.length = b + (ps.length + 1) by omega]
theorem dps_set : ∀ (b : Nat) (ps : List Pg) (k : Nat) (p : Pg), (dps b ps).set k ⟨b + k, p⟩ = dps b (ps.set k p)
  | _, [], k, p => by simp [dps]
  | b, q :: ps, 0, p => by simp [dps]
  | b, q :: ps, k + 1, p => by
    rw [dps, List.set_cons_succ, List.set_cons_succ, dps, show b + (k + 1) = b + 1 + k by omega, dps_set (b + 1) ps k p]
theorem dP_len {b : Nat} {ps : List Pg} : (dP b ps).length = 1 + ps.length := by simp [dP, Nat.add_comm]
theorem dS_len {b : Nat} {e : Eng} : (dS b e).length = 3 + e.disk.length + e.mem.length := by simp [dS, dP_len]; omega
theorem sh_dps (n : Nat) : ∀ (b : Nat) (ps : List Pg), ((dps b ps).map dA).map (AV.sh1 n) = (dps (n + b) ps).map dA
  | _, [] => rfl
  | b, p :: ps => by
    have := sh_dps n (b + 1) ps
    rw [dps, dps, List.map_cons, List.map_cons, List.map_cons, this, show n + (b + 1) = n + b + 1 by omega]
    simp [AV.sh1, AV.sh0, Nat.add_comm]
theorem sh_vO (n : Nat) (ps : List Pg) : shS n (ps.map vO) = ps.map vO := by
  unfold shS
  rw [List.map_map]
  refine List.map_congr_left fun p _ => ?_
  simp only [Function.comp, Option.map_some, List.map_map]
  congr 2
theorem shS_app (n : Nat) (A B : Store) : shS n (A ++ B) = shS n A ++ shS n B := by simp [shS]
theorem sh_dP (n b : Nat) (ps : List Pg) : shS n (dP b ps) = dP (n + b) ps := by
  have e : shS n (oD (b + 1) ps :: ps.map vO) = some ⟨3, ((dps (b + 1) ps).map dA).map (AV.sh1 n)⟩ :: shS n (ps.map vO) := rfl
  unfold dP
  rw [e, sh_dps, sh_vO]
  rfl
theorem sh_oR (n : Nat) (l : List Rc) : shS n [oR8 l] = [oR8 l] := by
  simp only [shS, List.map_cons, List.map_nil, Option.map_some, List.map_map]
  congr 3
theorem sh_dS (n b : Nat) (e : Eng) : shS n (dS b e) = dS (n + b) e := by
  unfold dS
  rw [shS_app, shS_app, sh_dP, sh_dP, sh_oR, Nat.add_assoc]
theorem sh_dE (n b : Nat) (e : Eng) : (dE b e).sh n = dE (n + b) e := by
  simp only [AV.sh, AV.sh1, List.map_cons, List.map_nil, AV.sh0]
  rw [show b + n = n + b by omega, show b + (1 + e.disk.length) + n = n + b + (1 + e.disk.length) by omega, show b + (2 + e.disk.length + e.mem.length) + n = n + b + (2 + e.disk.length + e.mem.length) by omega]
theorem cl_dps (m : Nat) : ∀ (b : Nat) (ps : List Pg), b + ps.length ≤ m → ((dps b ps).map dA).all (AV.cl1 m) = true
  | _, [], _ => rfl
  | b, p :: ps, h => by
    simp only [List.length_cons] at h
    rw [dps, List.map_cons, List.all_cons, cl_dps m (b + 1) ps (by omega)]
    simp [AV.cl1, AV.cl0, AV.pur0]
    omega
theorem cl_I {m : Nat} {l : List Int} : (l.map I).all (AV.cl1 m) = true := by simp [AV.cl1, AV.cl0, AV.pur0]
theorem cl_r {m : Nat} {l : List Rc} : (l.map rA).all (AV.cl1 m) = true := by simp [AV.cl1, AV.cl0, AV.pur0]
theorem cl_vO (m : Nat) (ps : List Pg) : (ps.map vO).all (clO m) = true := by
  rw [List.all_map, List.all_eq_true]
  exact fun p _ => cl_I
theorem cl_dP {m b : Nat} {ps : List Pg} (h : b + 1 + ps.length ≤ m) : (dP b ps).all (clO m) = true := by
  unfold dP
  rw [List.all_cons, cl_vO, Bool.and_true]
  exact cl_dps m (b + 1) ps h
theorem cl_oR {m : Nat} {l : List Rc} : [oR8 l].all (clO m) = true := by
  simp only [List.all_cons, List.all_nil, Bool.and_true]
  exact cl_r
theorem cl_dS {m b : Nat} {e : Eng} (h : b + (3 + e.disk.length + e.mem.length) ≤ m) : (dS b e).all (clO m) = true := by
  unfold dS
  rw [List.all_append, List.all_append, cl_dP (by omega), cl_dP (by omega), cl_oR]
  rfl
theorem cl_dE {m b : Nat} {e : Eng} (h : b + (3 + e.disk.length + e.mem.length) ≤ m) : (dE b e).cl1 m = true := by
  simp [AV.cl1, AV.cl0, AV.pur0]
  omega
theorem slt_of_cl {m : Nat} {l : List AV} (h : l.all (AV.cl1 m) = true) : (l.all fun x => x.cells.all (AV.lt1 m)) = true := by
  rw [List.all_eq_true] at h ⊢
  intro x hx
  have h0 : ∀ y : AV, y.cl0 m = true → y.lt1 m = true := by
    intro y hy
    cases y <;> simp_all [AV.cl0, AV.pur0, AV.lt1, AV.lt0]
  have := h x hx
  cases x with
  | agg xs =>
    simp only [AV.cl1, List.all_eq_true] at this
    rw [List.all_eq_true]
    exact fun y hy => h0 y (this y hy)
  | tup xs => simp [AV.cl1, AV.cl0, AV.pur0] at this
  | clo g xs => simp [AV.cl1, AV.cl0, AV.pur0] at this
  | any => simp [AV.cl1, AV.cl0, AV.pur0] at this
  | _ => simp only [AV.cells, List.all_cons, List.all_nil, Bool.and_true]; exact h0 _ this
theorem slt_cl {m : Nat} {S : Store} (h : S.all (clO m) = true) : sltB m S = true := by
  unfold sltB
  rw [List.all_eq_true] at h ⊢
  intro o ho
  cases o with
  | none => rfl
  | some o => exact slt_of_cl (h _ ho)
theorem a2_dps {K : List Nat} : ∀ (b : Nat) (ps : List Pg), (∀ k, b ≤ k → k < b + ps.length → K[k]? = some k) → All2 (Rn1 K) ((dps b ps).map dA) ((dps b ps).map dA)
  | _, [], _ => .nil
  | b, p :: ps, h => .cons _ _ _ _ (.agg _ _ (.cons _ _ _ _ (.same _ rfl) (.cons _ _ _ _ (.same _ rfl) (.cons _ _ _ _ (.own _ _ _ _ _ (h b (Nat.le_refl _) (by simp))) .nil)))) (a2_dps (b + 1) ps fun k h1 h2 => h k (by omega) (by simp only [List.length_cons]; omega))
theorem a2_app {R : AV → AV → Prop} {a b c d : List AV} (h1 : All2 R a b) (h2 : All2 R c d) : All2 R (a ++ c) (b ++ d) := by
  induction h1 with
  | nil => exact h2
  | cons x y xs ys h t ih => exact .cons _ _ _ _ h ih
theorem flat_dps : ∀ (b : Nat) (ps : List Pg), ∀ x ∈ (dps b ps).map dA, x.flat1 = true
  | _, [], _, h => by simp [dps] at h
  | b, p :: ps, x, h => by
    rw [dps, List.map_cons, List.mem_cons] at h
    rcases h with rfl | h
    · rfl
    · exact flat_dps (b + 1) ps x h
theorem flat_dP {b : Nat} {ps : List Pg} : ∀ (o : AObj), some o ∈ dP b ps → ∀ x ∈ o.es, x.flat1 = true := by
  intro o ho x hx
  unfold dP at ho
  rcases List.mem_cons.1 ho with h | h
  · cases h
    exact flat_dps _ _ x hx
  · obtain ⟨p, _, h⟩ := List.mem_map.1 h
    cases h
    obtain ⟨n, _, rfl⟩ := List.mem_map.1 hx
    rfl
theorem flat_dS {b : Nat} {e : Eng} : ∀ (o : AObj), some o ∈ dS b e → ∀ x ∈ o.es, x.flat1 = true := by
  intro o ho x hx
  unfold dS at ho
  rcases List.mem_append.1 ho with h | h
  · exact flat_dP o h x hx
  rcases List.mem_append.1 h with h | h
  · exact flat_dP o h x hx
  · rw [List.mem_singleton] at h
    cases h
    obtain ⟨n, _, rfl⟩ := List.mem_map.1 hx
    rfl
/-- The store has the objects T from the place n on. -/
def Has (S : Store) (n : Nat) (T : Store) : Prop := ∀ i, i < T.length → S[n + i]? = T[i]?
theorem Has.mid {A X B : Store} {n : Nat} (h : A.length = n) : Has (A ++ X ++ B) n X := fun i hi => by rw [← h]; exact mid_get hi
theorem Has.self (X : Store) : Has X 0 X := fun i _ => by rw [Nat.zero_add]
theorem Has.left {S X Y : Store} {n : Nat} (h : Has S n (X ++ Y)) : Has S n X := fun i hi => by
  rw [h i (by rw [List.length_append]; omega), List.getElem?_append_left hi]
theorem Has.right {S X Y : Store} {n : Nat} (h : Has S n (X ++ Y)) : Has S (n + X.length) Y := fun i hi => by
  rw [Nat.add_assoc, h _ (by rw [List.length_append]; omega), List.getElem?_append_right (by omega), Nat.add_sub_cancel_left]
theorem Has.getO {S T : Store} {n i : Nat} {o : AObj} (h : Has S n T) (hi : T[i]? = some (some o)) : getO S (n + i) = some o := by
  unfold Am.getO
  rw [h i (List.getElem?_eq_some_iff.1 hi).1, hi]
theorem see_vals {S : Store} {i n : Nat} {l : List Int} (h : getO S i = some ⟨1, l.map I⟩) (hn : n = l.length) : Sees S true (.own i 1 0 n) (ints l) := see_arg (.of1 _ _ (.of0 _ _ (arg0_I h hn)))
theorem see_same {S : Store} {x : AV} (h : x.pu = true) : Sees S true x x := see_arg (arg_of_pu h)
theorem see_dP {S : Store} {n m : Nat} {ps : List Pg} (h : Has S n (dP n ps)) (hm : m = ps.length) : Sees S true (.own n 3 0 m) (pgs ps) := by
  subst hm
  refine see_own (o := ⟨3, (dps (n + 1) ps).map dA⟩) (h.getO (i := 0) rfl) rfl (by simp [dps_len]) (by simp) ?_
  intro k d hk
  obtain ⟨p, hp, rfl⟩ : ∃ p, ps[k]? = some p ∧ pD p = d := by rw [List.getElem?_map] at hk; exact Option.map_eq_some_iff.1 hk
  have hkl : k < ps.length := (List.getElem?_eq_some_iff.1 hp).1
  refine ⟨dA ⟨n + 1 + k, p⟩, ?_, rfl, ?_, ?_⟩
  · rw [Nat.zero_add, List.getElem?_map, dps_get, hp]
    rfl
  · intro y hy
    simp only [pD, D.cells, List.mem_cons, List.not_mem_nil, or_false] at hy
    rcases hy with rfl | rfl | rfl <;> rfl
  · intro j y hj
    rcases j with _ | _ | _ | j
    · cases hj
      exact ⟨_, rfl, see_same rfl⟩
    · cases hj
      exact ⟨_, rfl, see_same rfl⟩
    · cases hj
      refine ⟨_, rfl, see_vals (i := n + 1 + k) ?_ rfl⟩
      have := h.getO (i := k + 1) (o := ⟨1, p.vals.map I⟩) (by unfold dP; rw [List.getElem?_cons_succ, List.getElem?_map, hp]; rfl)
      rw [show n + 1 + k = n + (k + 1) by omega]
      exact this
    · simp [pD, D.cells] at hj
theorem see_recs {S : Store} {i n : Nat} {l : List Rc} (h : getO S i = some ⟨8, l.map rA⟩) (hn : n = l.length) : Sees S true (.own i 8 0 n) (recs l) := see_arg (.of1 _ _ (.of0 _ _ (arg0_r h hn)))
theorem see_dE {S : Store} {n : Nat} {e : Eng} (h : Has S n (dS n e)) : Sees S true (dE n e) (eA e) := by
  unfold dS at h
  have h1 := h.left
  have h2 := h.right
  rw [dP_len] at h2
  have h3 := h2.right
  rw [dP_len] at h3
  refine see_agg (.cons _ _ _ _ (see_dP h1 rfl) (.cons _ _ _ _ (see_dP h2.left rfl) (.cons _ _ _ _ (see_recs ?_ rfl) (.cons _ _ _ _ (see_same rfl) (.cons _ _ _ _ (see_same rfl) .nil))))) rfl
  have := h3.getO (i := 0) (o := ⟨8, e.log.map rA⟩) rfl
  rw [← this]
  congr 1
  omega
end
section
def markI (k : Int) (n : Nat) : List Int := (List.range n).map fun i : Nat => k + (i : Int)
def markP (k : Int) (p : Pg) : Pg := ⟨k, k + 1, markI (k + 2) p.vals.length⟩
def cntPs : List Pg → Nat
  | [] => 0
  | p :: ps => 2 + p.vals.length + cntPs ps
def markPs : Int → List Pg → List Pg
  | _, [] => []
  | k, p :: ps => markP k p :: markPs (k + ((2 + p.vals.length : Nat) : Int)) ps
def markR (k : Int) : Rc := ⟨k, k + 1, k + 2, k + 3, k + 4, k + 5, k + 6, k + 7⟩
def markRs (k : Int) (n : Nat) : List Rc := (List.range n).map fun i : Nat => markR (k + 8 * (i : Int))
def cntE (e : Eng) : Nat := cntPs e.disk + cntPs e.mem + 8 * e.log.length
def markE (k : Int) (e : Eng) : Eng := ⟨markPs k e.disk, markPs (k + (cntPs e.disk : Int)) e.mem, markRs (k + (cntPs e.disk : Int) + (cntPs e.mem : Int)) e.log.length, e.safe, e.down⟩
theorem markI_len (k : Int) (n : Nat) : (markI k n).length = n := by simp [markI]
theorem markRs_len (k : Int) (n : Nat) : (markRs k n).length = n := by simp [markRs]
theorem markPs_len : ∀ (k : Int) (ps : List Pg), (markPs k ps).length = ps.length
  | _, [] => rfl
  | k, p :: ps => by simp [markPs, markPs_len]
theorem markI_succ (k : Int) (n : Nat) : markI k (n + 1) = markI k n ++ [k + (n : Int)] := by simp [markI, List.range_succ]
theorem markRs_succ (k : Int) (n : Nat) : markRs k (n + 1) = markRs k n ++ [markR (k + 8 * (n : Int))] := by simp [markRs, List.range_succ]
theorem cntPs_app : ∀ ps qs : List Pg, cntPs (ps ++ qs) = cntPs ps + cntPs qs
  | [], qs => by simp [cntPs]
  | p :: ps, qs => by simp [cntPs, cntPs_app ps qs]; omega
theorem markPs_app : ∀ (k : Int) (ps qs : List Pg), markPs k (ps ++ qs) = markPs k ps ++ markPs (k + (cntPs ps : Int)) qs
  | k, [], qs => by simp [markPs, cntPs]
  | k, p :: ps, qs => by
    rw [List.cons_append, markPs, markPs_app _ ps qs, markPs, List.cons_append]
    congr 3
    simp [cntPs]
    omega
theorem markI_at {k : Int} {n i : Nat} (h : i < n) : at' (markI k n) (i : Int) = k + (i : Int) := by
  simp [at', List.getD, markI, h]
theorem markRs_at {k : Int} {n i : Nat} (h : i < n) : at' (markRs k n) (i : Int) = markR (k + 8 * (i : Int)) := by
  simp [at', List.getD, markRs, h]
theorem take_succ {α : Type} [Inhabited α] {l : List α} {i : Nat} (h : i < l.length) : l.take (i + 1) = l.take i ++ [at' l (i : Int)] := (take_at l i h).symm
theorem markPs_at {k : Int} {ps : List Pg} {i : Nat} (h : i < ps.length) : at' (markPs k ps) (i : Int) = markP (k + (cntPs (ps.take i) : Int)) (at' ps (i : Int)) := by
  have e : ps = ps.take i ++ (at' ps (i : Int) :: ps.drop (i + 1)) := by rw [← drop_at ps i h, List.take_append_drop]
  have hl : (markPs k (ps.take i)).length = i := by rw [markPs_len, List.length_take]; omega
  rw [e, markPs_app, markPs, ← e]
  simp [at', List.getD, List.getElem?_append_right, hl]
theorem cntPs_take {ps : List Pg} {i : Nat} (h : i < ps.length) : cntPs (ps.take (i + 1)) = cntPs (ps.take i) + (2 + (at' ps (i : Int)).vals.length) := by
  rw [take_succ h, cntPs_app]
  simp [cntPs]
theorem cntPs_le : ∀ ps : List Pg, (∀ p ∈ ps, p.vals.length ≤ 2000000) → cntPs ps ≤ 2000002 * ps.length
  | [], _ => by simp [cntPs]
  | p :: ps, h => by
    have h1 := cntPs_le ps fun q hq => h q (by simp [hq])
    have h2 := h p (by simp)
    simp only [cntPs, List.length_cons]
    omega
/-- A list of which the first ones are written anew. -/
theorem set_mid {α : Type} [Inhabited α] {A l : List α} {i : Nat} (hA : A.length = i) (h : i < l.length) (x : α) : (A ++ l.drop i).set i x = (A ++ [x]) ++ l.drop (i + 1) := by
  rw [drop_at l i h, List.set_append_right _ _ (by omega), hA, Nat.sub_self, List.set_cons_zero, List.append_assoc]
  rfl
theorem at_mid {α : Type} [Inhabited α] {A l : List α} {i : Nat} (hA : A.length = i) (h : i < l.length) : at' (A ++ l.drop i) (i : Int) = at' l (i : Int) := by
  simp [at', List.getD, List.getElem?_append_right, hA]
end
end Go.Proofs.YtfcnajhanjhonaaGreat.Am
end
section
set_option linter.unusedVariables false
set_option linter.unusedSimpArgs false
set_option maxRecDepth 100000
set_option maxHeartbeats 8000000
namespace Go.Proofs.YtfcnajhanjhonaaGreat.Am
open Go Go.RowKit Go.Proofs
attribute [local go_sem_proc] Nat.reduceAdd Nat.reduceSub Nat.reduceMul Nat.reduceLT Nat.reduceLeDiff Nat.reduceEqDiff Int.reduceBEq Int.reduceBNe Int.reduceNeg Int.reduceSub Int.reduceLE Int.reduceLT
attribute [local go_sem_proc ↓] reduceIte
attribute [local congr] opsP_congr codeP_congr AWP_congr afterR_congr preP_congr afterPre_congr gPre_congr gOps_congr condP_congr stepE_congr
attribute [local go_sem] ty_int ty_bool ty_str ty_u8 ty_ints ty_bytes ty_page ty_pages ty_lpage ty_lpages ty_rec ty_recs ty_lrec ty_lrecs ty_eng ty_leng
attribute [local go_sem] true_and and_true beq_true' beq_false' toNat_cast Int.natCast_nonneg Bool.not_not Bool.not_true Bool.not_false decide_true decide_false Bool.or_false Bool.false_or Bool.or_true Bool.true_or Bool.and_false Bool.false_and Nat.zero_add Int.toNat_of_nonneg wrap_succ wrap_m1 wrap_nat succ_m1 cast0 succ_pos' succ_ne' succ_bne' ge_iff_le gt_iff_lt if_true if_false
section
theorem toIntS_own (l : List Int) (hb : l.length ≤ 2000000) : Fn Tryz.prog 10 [ints l] (fun r S => r = .own 0 1 0 l.length ∧ S = [some ⟨1, l.map I⟩]) := by
  refine fn_of Tryz.func10 rfl rfl ?_
  simp -implicitDefEqProofs only [go_sem, Tryz.f10]
  (repeat' (first | ((with_reducible first | refine gon ?_ ?_ | refine gos ?_ ?_ | refine cdn ?_ ?_ | refine cds ?_ ?_ | refine gpn ?_ ?_ | refine gps ?_ ?_) <;> intro h <;> (try simp only [dt, df, gi, gt] at h) <;> try simp -implicitDefEqProofs only [go_sem, *]) | ((with_reducible refine And.intro ?_ ?_); (· first | omega | (simp only [List.length_take]; omega)); try simp -implicitDefEqProofs only [go_sem, *]) | fail))
  refine cp_loop (fun i : Nat => ⟨(ints l :: .any :: nilS :: .own 0 1 0 l.length :: I (i : Int) :: .any :: .any :: .any :: .any :: .any :: .any :: .any :: .any :: .any :: .any :: .any :: .any :: .any :: .any :: .any :: .any :: .any :: []), [some ⟨1, (l.take i ++ List.replicate (l.length - i) 0).map I⟩], []⟩) (fun i => i ≤ l.length) (fun i => l.length - i) 0 ?_ ?_ ?_
  · simp
  · refine wk_tm ?_; repeat (first | exact WL.nil | (with_reducible refine WL.any _ _ _ ?_) | (with_reducible refine WL.same _ _ _ ?_) | (refine WL.eq _ _ _ _ rfl ?_))
  · rintro i hi
    have hbi : i < 4611686018427387904 := by omega
    have hfl : (l.take i ++ List.replicate (l.length - i) (0 : Int)).length = l.length := by simp; omega
    simp -implicitDefEqProofs only [go_sem, true_and]
    (repeat' (first | ((with_reducible first | refine gon ?_ ?_ | refine gos ?_ ?_ | refine cdn ?_ ?_ | refine cds ?_ ?_ | refine gpn ?_ ?_ | refine gps ?_ ?_) <;> intro h <;> (try simp only [dt, df, gi, gt] at h) <;> try simp -implicitDefEqProofs only [go_sem, *]) | ((with_reducible refine And.intro ?_ ?_); (· first | omega | (simp only [List.length_take]; omega)); try simp -implicitDefEqProofs only [go_sem, *]) | fail))
    · rw [fill_set l 0 i (by omega)]
      refine ⟨i + 1, by omega, by omega, ?_⟩
      refine wk_tm ?_; repeat (first | exact WL.nil | (with_reducible refine WL.any _ _ _ ?_) | (with_reducible refine WL.same _ _ _ ?_) | (refine WL.eq _ _ _ _ rfl ?_))
    · have e : i = l.length := by omega
      have e2 : List.take i l ++ List.replicate (l.length - i) (0 : Int) = l := by rw [e]; simp
      rw [e2]
      exact fin_same ⟨⟨rfl, rfl⟩, rfl⟩
theorem toPage_own (p : Pg) (hb : p.vals.length ≤ 2000000) : Fn Tryz.prog 97 [pA p] (fun r S => r = dA ⟨0, p⟩ ∧ S = [some ⟨1, p.vals.map I⟩]) := by
  refine fn_of Tryz.func97 rfl rfl ?_
  simp -implicitDefEqProofs only [go_sem, Tryz.f97]
  (repeat' (first | ((with_reducible first | refine gon ?_ ?_ | refine gos ?_ ?_ | refine cdn ?_ ?_ | refine cds ?_ ?_ | refine gpn ?_ ?_ | refine gps ?_ ?_) <;> intro h <;> (try simp only [dt, df, gi, gt] at h) <;> try simp -implicitDefEqProofs only [go_sem, *]) | ((with_reducible refine And.intro ?_ ?_); (· first | omega | (simp only [List.length_take]; omega)); try simp -implicitDefEqProofs only [go_sem, *]) | ((with_reducible refine enter_fn (toIntS_own p.vals hb) ?_ ?_); (· rfl); try simp -implicitDefEqProofs only [go_sem, *])))
  exact fin_keep [3] (by simp) rfl (keep1 rfl (a2_I _ _)) (.of _ _ (.agg _ _ (.cons _ _ _ _ (.same _ rfl) (.cons _ _ _ _ (.same _ rfl) (.cons _ _ _ _ (.own _ _ _ _ _ rfl) .nil))))) ⟨rfl, rfl⟩
theorem toRecS_own (l : List Rc) (hb : l.length ≤ 2000000) : Fn Tryz.prog 39 [recs l] (fun r S => r = .own 0 8 0 l.length ∧ S = [oR8 l]) := by
  refine fn_of Tryz.func39 rfl rfl ?_
  simp -implicitDefEqProofs only [go_sem, Tryz.f39]
  (repeat' (first | ((with_reducible first | refine gon ?_ ?_ | refine gos ?_ ?_ | refine cdn ?_ ?_ | refine cds ?_ ?_ | refine gpn ?_ ?_ | refine gps ?_ ?_) <;> intro h <;> (try simp only [dt, df, gi, gt] at h) <;> try simp -implicitDefEqProofs only [go_sem, *]) | ((with_reducible refine And.intro ?_ ?_); (· first | omega | (simp only [List.length_take]; omega)); try simp -implicitDefEqProofs only [go_sem, *]) | fail))
  refine cp_loop (fun i : Nat => ⟨(recs l :: .any :: nilS :: .own 0 8 0 l.length :: I (i : Int) :: .any :: .any :: .any :: .any :: .any :: .any :: .any :: .any :: .any :: .any :: .any :: .any :: .any :: .any :: .any :: .any :: .any :: .any :: []), [some ⟨8, (l.take i ++ List.replicate (l.length - i) default).map rA⟩], []⟩) (fun i => i ≤ l.length) (fun i => l.length - i) 0 ?_ ?_ ?_
  · simp
  · refine wk_tm ?_; repeat (first | exact WL.nil | (with_reducible refine WL.any _ _ _ ?_) | (with_reducible refine WL.same _ _ _ ?_) | (refine WL.eq _ _ _ _ rfl ?_))
  · rintro i hi
    have hbi : i < 4611686018427387904 := by omega
    have hfl : (l.take i ++ List.replicate (l.length - i) (default : Rc)).length = l.length := by simp; omega
    simp -implicitDefEqProofs only [go_sem, true_and]
    (repeat' (first | ((with_reducible first | refine gon ?_ ?_ | refine gos ?_ ?_ | refine cdn ?_ ?_ | refine cds ?_ ?_ | refine gpn ?_ ?_ | refine gps ?_ ?_) <;> intro h <;> (try simp only [dt, df, gi, gt] at h) <;> try simp -implicitDefEqProofs only [go_sem, *]) | ((with_reducible refine And.intro ?_ ?_); (· first | omega | (simp only [List.length_take]; omega)); try simp -implicitDefEqProofs only [go_sem, *]) | ((with_reducible refine enter_pu (toRec_fn _) ?_ ?_ ?_); (· rfl); (· rfl); try simp -implicitDefEqProofs only [go_sem, *])))
    · rw [fill_set l default i (by omega)]
      refine ⟨i + 1, by omega, by omega, ?_⟩
      refine wk_tm ?_; repeat (first | exact WL.nil | (with_reducible refine WL.any _ _ _ ?_) | (with_reducible refine WL.same _ _ _ ?_) | (refine WL.eq _ _ _ _ rfl ?_))
    · have e : i = l.length := by omega
      have e2 : List.take i l ++ List.replicate (l.length - i) (default : Rc) = l := by rw [e]; simp
      rw [e2]
      exact fin_same ⟨⟨rfl, rfl⟩, rfl⟩
/-- A page with an object, or the zero page. -/
def dZ : Option Dq → AV
  | some q => dA q
  | none => .agg [I 0, I 0, .prim (.slice none 0 0)]
theorem rep_d {n : Nat} : List.replicate n (AV.agg [.prim (.int .i64 0), .prim (.int .i64 0), .prim (.slice none 0 0)]) = (List.replicate n (none : Option Dq)).map dZ := by simp [dZ]
@[local go_sem] theorem dz_put {x : Option Dq} {a b c : AV} : AV.putAt (dZ x) 0 [a, b, c] = .agg [a, b, c] := by cases x <;> rfl
@[local go_sem] theorem set_dz {l : List (Option Dq)} {k j : Nat} {a b : Int} {v : List Int} : (l.map dZ).set k (.agg [I a, I b, .own j 1 0 v.length]) = (l.set k (some (⟨j, ⟨a, b, v⟩⟩ : Dq))).map dZ := by rw [List.map_set]; rfl
theorem map_dZ (l : List Dq) : (l.map some).map dZ = l.map dA := by rw [List.map_map]; rfl
theorem toPageS_own (l : List Pg) (hb : l.length ≤ 2000000) (hv : ∀ p ∈ l, p.vals.length ≤ 2000000) : Fn Tryz.prog 38 [pgs l] (fun r S => r = .own 0 3 0 l.length ∧ S = dP 0 l) := by
  refine fn_of Tryz.func38 rfl rfl ?_
  simp -implicitDefEqProofs only [go_sem, Tryz.f38]
  (repeat' (first | ((with_reducible first | refine gon ?_ ?_ | refine gos ?_ ?_ | refine cdn ?_ ?_ | refine cds ?_ ?_ | refine gpn ?_ ?_ | refine gps ?_ ?_) <;> intro h <;> (try simp only [dt, df, gi, gt] at h) <;> try simp -implicitDefEqProofs only [go_sem, *]) | ((with_reducible refine And.intro ?_ ?_); (· first | omega | (simp only [List.length_take]; omega)); try simp -implicitDefEqProofs only [go_sem, *]) | fail))
  rw [← rep_p, rep_d]
  refine cp_loop (fun i : Nat => ⟨(pgs l :: .any :: nilS :: .own 0 3 0 l.length :: I (i : Int) :: .any :: .any :: .any :: .any :: .any :: .any :: .any :: .any :: .any :: .any :: .any :: .any :: .any :: .any :: .any :: .any :: .any :: .any :: []), some ⟨3, ((dps 1 (l.take i)).map some ++ List.replicate (l.length - i) none).map dZ⟩ :: (l.take i).map vO, []⟩) (fun i => i ≤ l.length) (fun i => l.length - i) 0 ?_ ?_ ?_
  · simp
  · refine wk_tm ?_; repeat (first | exact WL.nil | (with_reducible refine WL.any _ _ _ ?_) | (with_reducible refine WL.same _ _ _ ?_) | (refine WL.eq _ _ _ _ rfl ?_))
  · rintro i hi
    have hbi : i < 4611686018427387904 := by omega
    have hfl : ((dps 1 (l.take i)).map some ++ List.replicate (l.length - i) (none : Option Dq)).length = l.length := by simp [dps_len]; omega
    simp -implicitDefEqProofs only [go_sem, true_and]
    (repeat' (first | ((with_reducible first | refine gon ?_ ?_ | refine gos ?_ ?_ | refine cdn ?_ ?_ | refine cds ?_ ?_ | refine gpn ?_ ?_ | refine gps ?_ ?_) <;> intro h <;> (try simp only [dt, df, gi, gt] at h) <;> try simp -implicitDefEqProofs only [go_sem, *]) | ((with_reducible refine And.intro ?_ ?_); (· first | omega | (simp only [List.length_take]; omega)); try simp -implicitDefEqProofs only [go_sem, *]) | ((with_reducible refine enter_fn (toPage_own _ (hv _ (at_mem l i (by omega)))) ?_ ?_); (· rfl); try simp -implicitDefEqProofs only [go_sem, *])))
    · have hi2 : i < l.length := by omega
      have e1 : (List.map some (dps 1 (List.take i l)) ++ List.replicate (l.length - i) (none : Option Dq)).set i (some ⟨(List.take i l).length + 1, at' l (i : Int)⟩) = List.map some (dps 1 (List.take (i + 1) l)) ++ List.replicate (l.length - (i + 1)) none := by
        rw [take_succ hi2, dps_app, List.map_append, List.append_assoc, List.set_append_right _ _ (by simp [dps_len]; omega), List.length_map, dps_len, List.length_take, Nat.min_eq_left (by omega), Nat.sub_self, show l.length - i = (l.length - (i + 1)) + 1 by omega, List.replicate_succ, Nat.add_comm i 1]
        rfl
      have e2 : List.map vO (List.take i l) ++ [some ⟨1, List.map I (at' l (i : Int)).vals⟩] = List.map vO (List.take (i + 1) l) := by
        rw [take_succ hi2, List.map_append]
        rfl
      rw [e1, e2]
      refine ⟨i + 1, by omega, by omega, ?_⟩
      refine wk_tm ?_; repeat (first | exact WL.nil | (with_reducible refine WL.any _ _ _ ?_) | (with_reducible refine WL.same _ _ _ ?_) | (refine WL.eq _ _ _ _ rfl ?_))
    · have e : i = l.length := by omega
      have e2 : List.map some (dps 1 (List.take i l)) ++ List.replicate (l.length - i) (none : Option Dq) = (dps 1 l).map some := by rw [e]; simp
      rw [e2, map_dZ, e, List.take_length]
      exact fin_same ⟨⟨rfl, rfl⟩, rfl⟩
theorem getO_len {S : Store} {o : AObj} {n : Nat} (h : n = S.length) : getO (S ++ [some o]) n = some o := by
  subst h
  unfold getO
  simp
theorem toEngine_own (e : Eng) (h : e.mid) : Fn Tryz.prog 9 [eA e] (fun r S => r = dE 0 e ∧ S = dS 0 e) := by
  refine fn_of Tryz.func9 rfl rfl ?_
  simp -implicitDefEqProofs only [go_sem, Tryz.f9]
  (repeat' (first | ((with_reducible first | refine gon ?_ ?_ | refine gos ?_ ?_ | refine cdn ?_ ?_ | refine cds ?_ ?_ | refine gpn ?_ ?_ | refine gps ?_ ?_) <;> intro h <;> (try simp only [dt, df, gi, gt] at h) <;> try simp -implicitDefEqProofs only [go_sem, *]) | ((with_reducible refine And.intro ?_ ?_); (· first | omega | (simp only [List.length_take]; omega)); try simp -implicitDefEqProofs only [go_sem, *]) | first | ((with_reducible refine enter_fn (toPageS_own e.disk h.disk h.dv) ?_ ?_); (· rfl); try simp -implicitDefEqProofs only [go_sem, *]) | ((with_reducible refine enter_fn (toPageS_own e.mem h.mem h.mv) ?_ ?_); (· rfl); try simp -implicitDefEqProofs only [go_sem, *]) | ((with_reducible refine enter_fn (toRecS_own e.log h.log) ?_ ?_); (· rfl); try simp -implicitDefEqProofs only [go_sem, *])))
  simp only [shS_len, dP_len]
  have e1 : shS 3 (dP 0 e.disk) = dP 3 e.disk := sh_dP 3 0 _
  have e2 : shS (1 + e.disk.length + 1 + 1 + 1) (dP 0 e.mem) = dP (3 + (1 + e.disk.length)) e.mem := by rw [sh_dP]; congr 1; omega
  rw [e1, e2]
  refine fin_tail 3 (X0 := dS 0 e) (r0 := dE 0 e) ?_ (by simp) (by rw [dS_len]; exact cl_dS (by omega)) ?_ (by rw [dS_len]; exact cl_dE (by omega)) ⟨rfl, rfl⟩
  · rw [sh_dS, List.append_assoc]
    rfl
  · rw [sh_dE, show 1 + e.disk.length + 1 + 1 + 1 = 3 + 0 + (1 + e.disk.length) by omega, show 1 + e.disk.length + (1 + e.mem.length) + 1 + 1 + 1 = 3 + 0 + (2 + e.disk.length + e.mem.length) by omega]
theorem markIntS_c (l : List Int) (k : Int) (hk : 0 ≤ k ∧ k ≤ 1000000000000000) (hb : l.length ≤ 2000000) : AFn1 Tryz.prog 15 [.own 0 1 0 l.length, I k] [some ⟨1, l.map I⟩] (I (k + (l.length : Int))) [some ⟨1, (markI k l.length).map I⟩] [] := by
  refine afn1_of Tryz.func15 rfl rfl ?_
  simp -implicitDefEqProofs only [go_sem, Tryz.f15]
  (repeat' (first | ((with_reducible first | refine gon ?_ ?_ | refine gos ?_ ?_ | refine cdn ?_ ?_ | refine cds ?_ ?_ | refine gpn ?_ ?_ | refine gps ?_ ?_) <;> intro h <;> (try simp only [dt, df, gi, gt] at h) <;> try simp -implicitDefEqProofs only [go_sem, *]) | ((with_reducible refine And.intro ?_ ?_); (· first | omega | (simp only [List.length_take]; omega)); try simp -implicitDefEqProofs only [go_sem, *]) | fail))
  refine cp_loop (fun i : Nat => ⟨(.own 0 1 0 l.length :: I (k + (i : Int)) :: .any :: .any :: I 0 :: I (i : Int) :: .any :: .any :: .any :: .any :: .any :: .any :: .any :: .any :: .any :: .any :: .any :: .any :: .any :: []), [some ⟨1, (markI k i ++ l.drop i).map I⟩], []⟩) (fun i => i ≤ l.length) (fun i => l.length - i) 0 ?_ ?_ ?_
  · simp
  · have e0 : k + ((0 : Nat) : Int) = k := by simp
    simp only [e0]
    refine wk_tm ?_; repeat (first | exact WL.nil | (with_reducible refine WL.any _ _ _ ?_) | (with_reducible refine WL.same _ _ _ ?_) | (refine WL.eq _ _ _ _ rfl ?_))
  · rintro i hi
    have hbi : i < 4611686018427387904 := by omega
    have hfl : (markI k i ++ l.drop i).length = l.length := by simp [markI_len]; omega
    have hw : IntKind.i64.wrap (k + (i : Int) + 1) = k + ((i + 1 : Nat) : Int) := by rw [wrap_ok (by omega) (by omega)]; omega
    simp -implicitDefEqProofs only [go_sem, true_and]
    (repeat' (first | ((with_reducible first | refine gon ?_ ?_ | refine gos ?_ ?_ | refine cdn ?_ ?_ | refine cds ?_ ?_ | refine gpn ?_ ?_ | refine gps ?_ ?_) <;> intro h <;> (try simp only [dt, df, gi, gt] at h) <;> try simp -implicitDefEqProofs only [go_sem, *]) | ((with_reducible refine And.intro ?_ ?_); (· first | omega | (simp only [List.length_take]; omega)); try simp -implicitDefEqProofs only [go_sem, *]) | fail))
    · have hi2 : i < l.length := by omega
      rw [set_mid (markI_len k i) hi2, ← markI_succ]
      refine ⟨i + 1, by omega, by omega, ?_⟩
      refine wk_tm ?_; repeat (first | exact WL.nil | (with_reducible refine WL.any _ _ _ ?_) | (with_reducible refine WL.same _ _ _ ?_) | (refine WL.eq _ _ _ _ rfl ?_))
    · have e : i = l.length := by omega
      subst e
      rw [List.drop_length, List.append_nil]
      exact fin_same ⟨rfl, rfl, rfl⟩
@[local go_sem] theorem set_d {l : List Dq} {k j : Nat} {a b : Int} {v : List Int} : (l.map dA).set k (.agg [I a, I b, .own j 1 0 v.length]) = (l.set k (⟨j, ⟨a, b, v⟩⟩ : Dq)).map dA := by rw [List.map_set]
@[local go_sem] theorem rnO_I {ρ : Nat → Nat} {l : List Int} : rnO ρ (some ⟨1, l.map I⟩) = some ⟨1, l.map I⟩ := by
  unfold rnO
  simp only [Option.map_some, List.map_map]
  congr 2
theorem markPageS_c (ps : List Pg) (k : Int) (hk : 0 ≤ k ∧ k ≤ 100000000000000) (hb : ps.length ≤ 2000000) (hv : ∀ p ∈ ps, p.vals.length ≤ 2000000) :
    AFn1 Tryz.prog 52 [.own 0 3 0 ps.length, I k] (dP 0 ps) (I (k + (cntPs ps : Int))) (dP 0 (markPs k ps)) [] := by
  refine afn1_of Tryz.func52 rfl rfl ?_
  simp -implicitDefEqProofs only [go_sem, Tryz.f52]
  (repeat' (first | ((with_reducible first | refine gon ?_ ?_ | refine gos ?_ ?_ | refine cdn ?_ ?_ | refine cds ?_ ?_ | refine gpn ?_ ?_ | refine gps ?_ ?_) <;> intro h <;> (try simp only [dt, df, gi, gt] at h) <;> try simp -implicitDefEqProofs only [go_sem, *]) | ((with_reducible refine And.intro ?_ ?_); (· first | omega | (simp only [List.length_take]; omega)); try simp -implicitDefEqProofs only [go_sem, *]) | fail))
  refine cp_loop (fun i : Nat => ⟨(.own 0 3 0 ps.length :: I (k + (cntPs (ps.take i) : Int)) :: .any :: .any :: I 0 :: I (i : Int) :: .any :: .any :: .any :: .any :: .any :: .any :: .any :: .any :: .any :: .any :: .any :: .any :: .any :: .any :: .any :: .any :: .any :: .any :: .any :: .any :: .any :: .any :: .any :: .any :: .any :: .any :: .any :: .any :: []), dP 0 (markPs k (ps.take i) ++ ps.drop i), []⟩) (fun i => i ≤ ps.length) (fun i => ps.length - i) 0 ?_ ?_ ?_
  · simp
  · have e0 : k + (cntPs (ps.take 0) : Int) = k := by simp [cntPs]
    simp only [e0]
    refine wk_tm ?_; repeat (first | exact WL.nil | (with_reducible refine WL.any _ _ _ ?_) | (with_reducible refine WL.same _ _ _ ?_) | (refine WL.eq _ _ _ _ rfl ?_))
  · rintro i hi
    have hbi : i < 4611686018427387904 := by omega
    have hA : (markPs k (ps.take i)).length = i := by rw [markPs_len, List.length_take]; omega
    by_cases hil : i < ps.length
    · have hil' : (i : Int) < (ps.length : Int) := by omega
      have hcle := cntPs_le (ps.take i) (fun p hp => hv p (List.mem_of_mem_take hp))
      rw [List.length_take] at hcle
      obtain ⟨kk, hkk⟩ : ∃ kk, k + (cntPs (ps.take i) : Int) = kk := ⟨_, rfl⟩
      have hkb : 0 ≤ kk ∧ kk ≤ 200000000000000 := by omega
      have hw1 : IntKind.i64.wrap (kk + 1) = kk + 1 := wrap_ok (by omega) (by omega)
      have hw2 : IntKind.i64.wrap (kk + 1 + 1) = kk + 2 := by rw [wrap_ok (by omega) (by omega)]; omega
      obtain ⟨qs, hqs⟩ : ∃ qs, markPs k (ps.take i) ++ ps.drop i = qs := ⟨_, rfl⟩
      have hql : qs.length = ps.length := by rw [← hqs, List.length_append, hA, List.length_drop]; omega
      obtain ⟨p, hp⟩ : ∃ p, at' ps (i : Int) = p := ⟨_, rfl⟩
      have hpv : p.vals.length ≤ 2000000 := by rw [← hp]; exact hv _ (at_mem ps i hil)
      have hat : at' (dps 1 qs) (i : Int) = ⟨i + 1, p⟩ := by rw [dps_at (by omega), ← hqs, at_mid hA hil, hp, Nat.add_comm]
      have hat2 : ∀ x, at' ((dps 1 qs).set i x) (i : Int) = x := fun x => at_set_self _ (i : Int) (by omega) (by simp [dps_len]; omega) x
      have hdl : (dps 1 qs).length = ps.length := by rw [dps_len, hql]
      have hc := markIntS_c p.vals (kk + 2) (by omega) hpv
      simp only [hkk, hqs]
      have hqi : qs[i]? = some p := by
        rw [← hqs, List.getElem?_append_right (by omega), hA, Nat.sub_self, List.getElem?_drop, Nat.add_zero, List.getElem?_eq_getElem hil, ← hp]
        simp [at', List.getD, List.getElem?_eq_getElem hil]
      have hq' : markPs k (ps.take (i + 1)) ++ ps.drop (i + 1) = qs.set i (markP kk p) := by
        rw [← hqs, set_mid hA hil, take_succ hil, markPs_app, hkk, hp]
        rfl
      have hd' : (dps 1 qs).set i ⟨i + 1, markP kk p⟩ = dps 1 (qs.set i (markP kk p)) := by rw [← dps_set, Nat.add_comm]
      have hk' : k + (cntPs (ps.take (i + 1)) : Int) = kk + 2 + (p.vals.length : Int) := by rw [cntPs_take hil, hp]; omega
      simp -implicitDefEqProofs only [go_sem, hil', dP, List.set_set]
      (repeat' (first | ((with_reducible first | refine gon ?_ ?_ | refine gos ?_ ?_ | refine cdn ?_ ?_ | refine cds ?_ ?_ | refine gpn ?_ ?_ | refine gps ?_ ?_) <;> intro h <;> (try simp only [dt, df, gi, gt] at h) <;> try simp -implicitDefEqProofs only [go_sem, *]) | ((with_reducible refine And.intro ?_ ?_); (· first | omega | (simp only [List.length_take]; omega)); try simp -implicitDefEqProofs only [go_sem, *]) | fail))
      refine enter_at1 [i + 1] (M2 := []) hc (by simp) (.cons _ _ _ _ _ ?_ rfl (a2_I _ _) .nil) (.cons _ _ _ _ (rt_own _ rfl) (.cons _ _ _ _ rnT_prim .nil)) rfl ?_
      · rw [List.getElem?_cons_succ, List.getElem?_map, hqi]
        rfl
      simp -implicitDefEqProofs only [go_sem, hbi]
      have e1 : List.map dA ((dps 1 qs).set i ⟨i + 1, ⟨kk, kk + 1, p.vals⟩⟩) = List.map dA (dps 1 (qs.set i (markP kk p))) := by
        rw [← hd', List.map_set, List.map_set]
        congr 1
        simp [markP, markI_len]
      have e2 : (List.map vO qs).set i (some ⟨1, List.map I (markI (kk + 2) p.vals.length)⟩) = List.map vO (qs.set i (markP kk p)) := by rw [List.map_set]; rfl
      rw [e1, e2]
      refine ⟨i + 1, by omega, by omega, ?_⟩
      rw [hk', hq']
      refine wk_tm ?_; repeat (first | exact WL.nil | (with_reducible refine WL.any _ _ _ ?_) | (with_reducible refine WL.same _ _ _ ?_) | (refine WL.eq _ _ _ _ rfl ?_))
    · have e : i = ps.length := by omega
      subst e
      have hil' : ¬ (ps.length : Int) < (ps.length : Int) := by omega
      simp only [List.take_length, List.drop_length, List.append_nil]
      simp -implicitDefEqProofs only [go_sem, hil']
      exact fin_same ⟨rfl, rfl, rfl⟩
@[local go_sem] theorem len_mR {k : Int} {n : Nat} : (markRs k n).length = n := markRs_len k n
theorem markRecS_c (l : List Rc) (k : Int) (hk : 0 ≤ k ∧ k ≤ 1000000000000000) (hb : l.length ≤ 2000000) : AFn1 Tryz.prog 53 [.own 0 8 0 l.length, I k] [oR8 l] (I (k + 8 * (l.length : Int))) [oR8 (markRs k l.length)] [] := by
  refine afn1_of Tryz.func53 rfl rfl ?_
  simp -implicitDefEqProofs only [go_sem, Tryz.f53]
  (repeat' (first | ((with_reducible first | refine gon ?_ ?_ | refine gos ?_ ?_ | refine cdn ?_ ?_ | refine cds ?_ ?_ | refine gpn ?_ ?_ | refine gps ?_ ?_) <;> intro h <;> (try simp only [dt, df, gi, gt] at h) <;> try simp -implicitDefEqProofs only [go_sem, *]) | ((with_reducible refine And.intro ?_ ?_); (· first | omega | (simp only [List.length_take]; omega)); try simp -implicitDefEqProofs only [go_sem, *]) | fail))
  refine cp_loop (fun i : Nat => ⟨(.own 0 8 0 l.length :: I (k + 8 * (i : Int)) :: .any :: .any :: I 0 :: I (i : Int) :: .any :: .any :: .any :: .any :: .any :: .any :: .any :: .any :: .any :: .any :: .any :: .any :: .any :: .any :: .any :: .any :: .any :: .any :: .any :: .any :: .any :: .any :: .any :: .any :: .any :: .any :: .any :: .any :: .any :: .any :: .any :: .any :: .any :: .any :: .any :: .any :: .any :: .any :: .any :: .any :: .any :: .any :: .any :: .any :: .any :: .any :: .any :: .any :: .any :: .any :: .any :: .any :: .any :: .any :: .any :: .any :: .any :: .any :: .any :: .any :: .any :: .any :: .any :: []), [some ⟨8, (markRs k i ++ l.drop i).map rA⟩], []⟩) (fun i => i ≤ l.length) (fun i => l.length - i) 0 ?_ ?_ ?_
  · simp
  · have e0 : k + 8 * ((0 : Nat) : Int) = k := by simp
    simp only [e0]
    refine wk_tm ?_; repeat (first | exact WL.nil | (with_reducible refine WL.any _ _ _ ?_) | (with_reducible refine WL.same _ _ _ ?_) | (refine WL.eq _ _ _ _ rfl ?_))
  · rintro i hi
    have hbi : i < 4611686018427387904 := by omega
    have hfl : (markRs k i ++ l.drop i).length = l.length := by simp [markRs_len]; omega
    by_cases hil : i < l.length
    · have hil' : (i : Int) < (l.length : Int) := by omega
      obtain ⟨kk, hkk⟩ : ∃ kk, k + 8 * (i : Int) = kk := ⟨_, rfl⟩
      have hkb : 0 ≤ kk ∧ kk ≤ 2000000000000000 := by omega
      have hk' : k + 8 * ((i + 1 : Nat) : Int) = kk + 8 := by omega
      have w1 : IntKind.i64.wrap (kk + 1) = kk + 1 := wrap_ok (by omega) (by omega)
      have w2 : IntKind.i64.wrap (kk + 1 + 1) = kk + 2 := by rw [wrap_ok (by omega) (by omega)]; omega
      have w3 : IntKind.i64.wrap (kk + 2 + 1) = kk + 3 := by rw [wrap_ok (by omega) (by omega)]; omega
      have w4 : IntKind.i64.wrap (kk + 3 + 1) = kk + 4 := by rw [wrap_ok (by omega) (by omega)]; omega
      have w5 : IntKind.i64.wrap (kk + 4 + 1) = kk + 5 := by rw [wrap_ok (by omega) (by omega)]; omega
      have w6 : IntKind.i64.wrap (kk + 5 + 1) = kk + 6 := by rw [wrap_ok (by omega) (by omega)]; omega
      have w7 : IntKind.i64.wrap (kk + 6 + 1) = kk + 7 := by rw [wrap_ok (by omega) (by omega)]; omega
      have w8 : IntKind.i64.wrap (kk + 7 + 1) = kk + 8 := by rw [wrap_ok (by omega) (by omega)]; omega
      obtain ⟨qs, hqs⟩ : ∃ qs, markRs k i ++ l.drop i = qs := ⟨_, rfl⟩
      have hql : qs.length = l.length := by rw [← hqs]; exact hfl
      have hat2 : ∀ x, at' (qs.set i x) (i : Int) = x := fun x => at_set_self _ (i : Int) (by omega) (by rw [hql, Int.toNat_natCast]; exact hil) x
      have hq' : markRs k (i + 1) ++ l.drop (i + 1) = qs.set i (markR kk) := by rw [← hqs, set_mid (markRs_len k i) hil, markRs_succ, hkk]
      simp only [hkk, hqs] at hfl ⊢
      simp -implicitDefEqProofs only [go_sem, hil', List.set_set]
      (repeat' (first | ((with_reducible first | refine gon ?_ ?_ | refine gos ?_ ?_ | refine cdn ?_ ?_ | refine cds ?_ ?_ | refine gpn ?_ ?_ | refine gps ?_ ?_) <;> intro h <;> (try simp only [dt, df, gi, gt] at h) <;> try simp -implicitDefEqProofs only [go_sem, *]) | ((with_reducible refine And.intro ?_ ?_); (· first | omega | (simp only [List.length_take]; omega)); try simp -implicitDefEqProofs only [go_sem, *]) | fail))
      refine ⟨i + 1, by omega, by omega, ?_⟩
      rw [hk', hq']
      refine wk_tm ?_; repeat (first | exact WL.nil | (with_reducible refine WL.any _ _ _ ?_) | (with_reducible refine WL.same _ _ _ ?_) | (refine WL.eq _ _ _ _ rfl ?_))
    · have e : i = l.length := by omega
      subst e
      have hil' : ¬ (l.length : Int) < (l.length : Int) := by omega
      rw [List.drop_length, List.append_nil]
      simp -implicitDefEqProofs only [go_sem, hil']
      exact fin_same ⟨rfl, rfl, rfl⟩
theorem cl_args {m z n : Nat} {k : Int} (h : 0 < m) : ([.own 0 z 0 n, I k] : List AV).all (AV.cl m) = true := by simp [AV.cl, AV.cl1, AV.cl0, AV.pur0, h]
structure Eng.low (e : Eng) : Prop where
  mid : e.mid
  cd : cntPs e.disk ≤ 10000000000000
  cm : cntPs e.mem ≤ 10000000000000
theorem Eng.mid.low {e : Eng} (h : e.mid) : e.low := ⟨h, by have := cntPs_le e.disk h.dv; have := h.disk; omega, by have := cntPs_le e.mem h.mv; have := h.mem; omega⟩
theorem markEngine_c (e : Eng) (h : e.mid) : AFn1 Tryz.prog 14 [dE 0 e, I 1] (dS 0 e) (I (1 + (cntE e : Int))) (dS 0 (markE 1 e)) [] := by
  obtain ⟨_, hcd, hcm⟩ := h.low
  have c1 := markPageS_c e.disk 1 (by omega) h.disk h.dv
  have c2 := markPageS_c e.mem (1 + (cntPs e.disk : Int)) (by omega) h.mem h.mv
  have c3 := markRecS_c e.log (1 + (cntPs e.disk : Int) + (cntPs e.mem : Int)) (by omega) h.log
  refine afn1_of Tryz.func14 rfl rfl ?_
  simp -implicitDefEqProofs only [go_sem, Tryz.f14, getO_len rfl]
  (repeat' (first | ((with_reducible first | refine gon ?_ ?_ | refine gos ?_ ?_ | refine cdn ?_ ?_ | refine cds ?_ ?_ | refine gpn ?_ ?_ | refine gps ?_ ?_) <;> intro h <;> (try simp only [dt, df, gi, gt] at h) <;> try simp -implicitDefEqProofs only [go_sem, *]) | ((with_reducible refine And.intro ?_ ?_); (· first | omega | (simp only [List.length_take]; omega)); try simp -implicitDefEqProofs only [go_sem, *]) | fail))
  obtain ⟨d, hd⟩ : ∃ d, markPs 1 e.disk = d := ⟨_, rfl⟩
  obtain ⟨m, hm⟩ : ∃ m, markPs (1 + (cntPs e.disk : Int)) e.mem = m := ⟨_, rfl⟩
  have hdl : d.length = e.disk.length := by rw [← hd, markPs_len]
  have hml : m.length = e.mem.length := by rw [← hm, markPs_len]
  have hg1 : getO (dP 0 d ++ (dP (1 + e.disk.length) e.mem ++ [oR8 e.log, some ⟨5, [dE 0 e]⟩])) (dS 0 e).length = some ⟨5, [dE 0 e]⟩ := by
    rw [show [oR8 e.log, some ⟨5, [dE 0 e]⟩] = [oR8 e.log] ++ [some ⟨5, [dE 0 e]⟩] from rfl, ← List.append_assoc, ← List.append_assoc]
    exact getO_len (by simp [dS_len, dP_len, hdl]; omega)
  have hg2 : getO (dP 0 d ++ (dP (1 + e.disk.length) m ++ [oR8 e.log, some ⟨5, [dE 0 e]⟩])) (dS 0 e).length = some ⟨5, [dE 0 e]⟩ := by
    rw [show [oR8 e.log, some ⟨5, [dE 0 e]⟩] = [oR8 e.log] ++ [some ⟨5, [dE 0 e]⟩] from rfl, ← List.append_assoc, ← List.append_assoc]
    exact getO_len (by simp [dS_len, dP_len, hdl, hml]; omega)
  rw [hd] at c1
  rw [hm] at c2
  refine enter_mid 0 (A := []) (X0 := dP 0 e.disk) (X1 := dP 0 d) (B := dP (1 + e.disk.length) e.mem ++ [oR8 e.log, some ⟨5, [dE 0 e]⟩]) c1 ?_ rfl (by simp [dP_len, hdl]) (by rw [dP_len]; exact cl_dP (by omega)) (by rw [dP_len]; exact cl_dP (by omega)) rfl rfl (cl_args (by rw [dP_len]; omega)) ?_
  · rw [sh_dP]
    simp [dS]
  rw [sh_dP, List.nil_append, Nat.add_zero]
  simp -implicitDefEqProofs only [go_sem, hg1]
  refine enter_mid (1 + e.disk.length) (A := dP 0 d) (X0 := dP 0 e.mem) (X1 := dP 0 m) (B := [oR8 e.log, some ⟨5, [dE 0 e]⟩]) c2 ?_ (by rw [dP_len, hdl]) (by simp [dP_len, hml]) (by rw [dP_len]; exact cl_dP (by omega)) (by rw [dP_len]; exact cl_dP (by omega)) rfl ?_ (cl_args (by rw [dP_len]; omega)) ?_
  · rw [sh_dP, List.append_assoc, Nat.add_zero]
  · simp [AV.sh, AV.sh1, AV.sh0]
  rw [sh_dP, List.append_assoc, Nat.add_zero]
  simp -implicitDefEqProofs only [go_sem, hg2]
  refine enter_mid (2 + e.disk.length + e.mem.length) (A := dP 0 d ++ dP (1 + e.disk.length) m) (X0 := [oR8 e.log]) (X1 := [oR8 (markRs (1 + (cntPs e.disk : Int) + (cntPs e.mem : Int)) e.log.length)]) (B := [some ⟨5, [dE 0 e]⟩]) c3 ?_ (by rw [List.length_append, dP_len, dP_len, hdl, hml]; omega) rfl cl_oR cl_oR rfl ?_ (cl_args (by simp)) ?_
  · rw [sh_oR, List.append_assoc, List.append_assoc]
    rfl
  · simp [AV.sh, AV.sh1, AV.sh0]
  rw [sh_oR]
  simp -implicitDefEqProofs only [go_sem, true_and]
  refine fin_trunc (by simp [dS_len, dP_len, hdl, hml]; omega) rfl ?_ ⟨?_, ?_, rfl⟩
  · refine slt_cl ?_
    have hs := cl_dS (m := (dP 0 d ++ dP (1 + e.disk.length) m ++ [oR8 (markRs (1 + (cntPs e.disk : Int) + (cntPs e.mem : Int)) e.log.length)]).length) (b := 0) (e := markE 1 e) (by simp [dP_len, hdl, hml, markE, markPs_len]; omega)
    unfold dS markE at hs
    simp only [hd, hm, hdl, Nat.zero_add] at hs
    rw [List.append_assoc] at hs ⊢
    exact hs
  · unfold cntE
    congr 2
    omega
  · unfold dS markE
    simp only [hd, hm, hdl, Nat.zero_add, List.append_assoc]
end
section
theorem heldIntS_fn (k : Int) (n : Nat) (hk : 0 ≤ k ∧ k ≤ 1000000000000000) (hn : n ≤ 2000000) : Fn1 Tryz.prog 106 [ints (markI k n), I k] (I (k + (n : Int))) := by
  have hl := markI_len k n
  refine fn1_of Tryz.func106 rfl rfl ?_
  simp -implicitDefEqProofs only [go_sem, Tryz.f106]
  (repeat' (first | ((with_reducible first | refine gon ?_ ?_ | refine gos ?_ ?_ | refine cdn ?_ ?_ | refine cds ?_ ?_ | refine gpn ?_ ?_ | refine gps ?_ ?_) <;> intro h <;> (try simp only [dt, df, gi, gt] at h) <;> try simp -implicitDefEqProofs only [go_sem, *]) | ((with_reducible refine And.intro ?_ ?_); (· first | omega | (simp only [List.length_take]; omega)); try simp -implicitDefEqProofs only [go_sem, *]) | fail))
  refine cp_loop (fun i : Nat => ⟨(ints (markI k n) :: I (k + (i : Int)) :: .any :: .any :: I 0 :: I (i : Int) :: .any :: .any :: .any :: .any :: .any :: .any :: .any :: .any :: .any :: .any :: .any :: .any :: .any :: .any :: .any :: []), [], []⟩) (fun i => i ≤ n) (fun i => n - i) 0 ?_ ?_ ?_
  · simp
  · have e0 : k + ((0 : Nat) : Int) = k := by simp
    simp only [e0]
    refine wk_tm ?_; repeat (first | exact WL.nil | (with_reducible refine WL.any _ _ _ ?_) | (with_reducible refine WL.same _ _ _ ?_) | (refine WL.eq _ _ _ _ rfl ?_))
  · rintro i hi
    have hbi : i < 4611686018427387904 := by omega
    have hw : IntKind.i64.wrap (k + (i : Int) + 1) = k + ((i + 1 : Nat) : Int) := by rw [wrap_ok (by omega) (by omega)]; omega
    by_cases hil : i < n
    · have hil' : (i : Int) < (n : Int) := by omega
      have hat := markI_at (k := k) hil
      have hne : ((k + (i : Int)) != (k + (i : Int))) = false := by simp
      simp -implicitDefEqProofs only [go_sem, hil', hl]
      (repeat' (first | ((with_reducible first | refine gon ?_ ?_ | refine gos ?_ ?_ | refine cdn ?_ ?_ | refine cds ?_ ?_ | refine gpn ?_ ?_ | refine gps ?_ ?_) <;> intro h <;> (try simp only [dt, df, gi, gt] at h) <;> try simp -implicitDefEqProofs only [go_sem, *]) | ((with_reducible refine And.intro ?_ ?_); (· first | omega | (simp only [List.length_take]; omega)); try simp -implicitDefEqProofs only [go_sem, *]) | fail))
      refine ⟨i + 1, by omega, by omega, ?_⟩
      refine wk_tm ?_; repeat (first | exact WL.nil | (with_reducible refine WL.any _ _ _ ?_) | (with_reducible refine WL.same _ _ _ ?_) | (refine WL.eq _ _ _ _ rfl ?_))
    · have e : i = n := by omega
      subst e
      have hil' : ¬ (i : Int) < (i : Int) := by omega
      simp -implicitDefEqProofs only [go_sem, hil', hl]
      exact fin_pu rfl rfl
theorem heldPageS_fn (ps : List Pg) (k : Int) (hk : 0 ≤ k ∧ k ≤ 100000000000000) (hb : ps.length ≤ 2000000) (hv : ∀ p ∈ ps, p.vals.length ≤ 2000000) : Fn1 Tryz.prog 54 [pgs (markPs k ps), I k] (I (k + (cntPs ps : Int))) := by
  have hl := markPs_len k ps
  refine fn1_of Tryz.func54 rfl rfl ?_
  simp -implicitDefEqProofs only [go_sem, Tryz.f54]
  (repeat' (first | ((with_reducible first | refine gon ?_ ?_ | refine gos ?_ ?_ | refine cdn ?_ ?_ | refine cds ?_ ?_ | refine gpn ?_ ?_ | refine gps ?_ ?_) <;> intro h <;> (try simp only [dt, df, gi, gt] at h) <;> try simp -implicitDefEqProofs only [go_sem, *]) | ((with_reducible refine And.intro ?_ ?_); (· first | omega | (simp only [List.length_take]; omega)); try simp -implicitDefEqProofs only [go_sem, *]) | fail))
  refine cp_loop (fun i : Nat => ⟨(pgs (markPs k ps) :: I (k + (cntPs (ps.take i) : Int)) :: .any :: .any :: I 0 :: I (i : Int) :: .any :: .any :: .any :: .any :: .any :: .any :: .any :: .any :: .any :: .any :: .any :: .any :: .any :: .any :: .any :: .any :: .any :: .any :: .any :: .any :: .any :: .any :: .any :: .any :: .any :: .any :: .any :: .any :: .any :: .any :: .any :: .any :: .any :: .any :: []), [], []⟩) (fun i => i ≤ ps.length) (fun i => ps.length - i) 0 ?_ ?_ ?_
  · simp
  · have e0 : k + (cntPs (ps.take 0) : Int) = k := by simp [cntPs]
    simp only [e0]
    refine wk_tm ?_; repeat (first | exact WL.nil | (with_reducible refine WL.any _ _ _ ?_) | (with_reducible refine WL.same _ _ _ ?_) | (refine WL.eq _ _ _ _ rfl ?_))
  · rintro i hi
    have hbi : i < 4611686018427387904 := by omega
    by_cases hil : i < ps.length
    · have hil' : (i : Int) < (ps.length : Int) := by omega
      have hcle := cntPs_le (ps.take i) (fun p hp => hv p (List.mem_of_mem_take hp))
      rw [List.length_take] at hcle
      have hat := markPs_at (k := k) hil
      obtain ⟨kk, hkk⟩ : ∃ kk, k + (cntPs (ps.take i) : Int) = kk := ⟨_, rfl⟩
      rw [hkk] at hat
      have hkb : 0 ≤ kk ∧ kk ≤ 200000000000000 := by omega
      have hw1 : IntKind.i64.wrap (kk + 1) = kk + 1 := wrap_ok (by omega) (by omega)
      have hw2 : IntKind.i64.wrap (kk + 1 + 1) = kk + 2 := by rw [wrap_ok (by omega) (by omega)]; omega
      obtain ⟨p, hp⟩ : ∃ p, at' ps (i : Int) = p := ⟨_, rfl⟩
      rw [hp] at hat
      unfold markP at hat
      have hpv : p.vals.length ≤ 2000000 := by rw [← hp]; exact hv _ (at_mem ps i hil)
      have hk' : k + (cntPs (ps.take (i + 1)) : Int) = kk + 2 + (p.vals.length : Int) := by rw [cntPs_take hil, hp]; omega
      have hc := heldIntS_fn (kk + 2) p.vals.length (by omega) hpv
      have hne1 : (kk != kk) = false := by simp
      have hne2 : ((kk + 1) != (kk + 1)) = false := by simp
      have hge : ¬ (kk + 2 + (p.vals.length : Int) < 0) := by omega
      simp only [hkk]
      simp -implicitDefEqProofs only [go_sem, hil', hl]
      (repeat' (first | ((with_reducible first | refine gon ?_ ?_ | refine gos ?_ ?_ | refine cdn ?_ ?_ | refine cds ?_ ?_ | refine gpn ?_ ?_ | refine gps ?_ ?_) <;> intro h <;> (try simp only [dt, df, gi, gt] at h) <;> try simp -implicitDefEqProofs only [go_sem, *]) | ((with_reducible refine And.intro ?_ ?_); (· first | omega | (simp only [List.length_take]; omega)); try simp -implicitDefEqProofs only [go_sem, *]) | ((with_reducible refine enter_pu (hc) ?_ ?_ ?_); (· rfl); (· rfl); try simp -implicitDefEqProofs only [go_sem, *])))
      refine ⟨i + 1, by omega, by omega, ?_⟩
      rw [hk']
      refine wk_tm ?_; repeat (first | exact WL.nil | (with_reducible refine WL.any _ _ _ ?_) | (with_reducible refine WL.same _ _ _ ?_) | (refine WL.eq _ _ _ _ rfl ?_))
    · have e : i = ps.length := by omega
      subst e
      have hil' : ¬ (ps.length : Int) < (ps.length : Int) := by omega
      simp only [List.take_length]
      simp -implicitDefEqProofs only [go_sem, hil', hl]
      exact fin_pu rfl rfl
theorem heldRecS_fn (n : Nat) (k : Int) (hk : 0 ≤ k ∧ k ≤ 1000000000000000) (hb : n ≤ 2000000) : Fn1 Tryz.prog 55 [recs (markRs k n), I k] (I (k + 8 * (n : Int))) := by
  have hl := markRs_len k n
  refine fn1_of Tryz.func55 rfl rfl ?_
  simp -implicitDefEqProofs only [go_sem, Tryz.f55]
  (repeat' (first | ((with_reducible first | refine gon ?_ ?_ | refine gos ?_ ?_ | refine cdn ?_ ?_ | refine cds ?_ ?_ | refine gpn ?_ ?_ | refine gps ?_ ?_) <;> intro h <;> (try simp only [dt, df, gi, gt] at h) <;> try simp -implicitDefEqProofs only [go_sem, *]) | ((with_reducible refine And.intro ?_ ?_); (· first | omega | (simp only [List.length_take]; omega)); try simp -implicitDefEqProofs only [go_sem, *]) | fail))
  refine cp_loop (fun i : Nat => ⟨(recs (markRs k n) :: I (k + 8 * (i : Int)) :: .any :: .any :: I 0 :: I (i : Int) :: .any :: .any :: .any :: .any :: .any :: .any :: .any :: .any :: .any :: .any :: .any :: .any :: .any :: .any :: .any :: .any :: .any :: .any :: .any :: .any :: .any :: .any :: .any :: .any :: .any :: .any :: .any :: .any :: .any :: .any :: .any :: .any :: .any :: .any :: .any :: .any :: .any :: .any :: .any :: .any :: .any :: .any :: .any :: .any :: .any :: .any :: .any :: .any :: .any :: .any :: .any :: .any :: .any :: .any :: .any :: .any :: .any :: .any :: .any :: .any :: .any :: .any :: .any :: .any :: .any :: .any :: .any :: .any :: .any :: .any :: .any :: .any :: .any :: .any :: .any :: .any :: .any :: .any :: .any :: []), [], []⟩) (fun i => i ≤ n) (fun i => n - i) 0 ?_ ?_ ?_
  · simp
  · have e0 : k + 8 * ((0 : Nat) : Int) = k := by simp
    simp only [e0]
    refine wk_tm ?_; repeat (first | exact WL.nil | (with_reducible refine WL.any _ _ _ ?_) | (with_reducible refine WL.same _ _ _ ?_) | (refine WL.eq _ _ _ _ rfl ?_))
  · rintro i hi
    have hbi : i < 4611686018427387904 := by omega
    by_cases hil : i < n
    · have hil' : (i : Int) < (n : Int) := by omega
      have hat := markRs_at (k := k) hil
      obtain ⟨kk, hkk⟩ : ∃ kk, k + 8 * (i : Int) = kk := ⟨_, rfl⟩
      rw [hkk] at hat
      unfold markR at hat
      have hkb : 0 ≤ kk ∧ kk ≤ 2000000000000000 := by omega
      have hk' : k + 8 * ((i + 1 : Nat) : Int) = kk + 8 := by omega
      have w1 : IntKind.i64.wrap (kk + 1) = kk + 1 := wrap_ok (by omega) (by omega)
      have w2 : IntKind.i64.wrap (kk + 1 + 1) = kk + 2 := by rw [wrap_ok (by omega) (by omega)]; omega
      have w3 : IntKind.i64.wrap (kk + 2 + 1) = kk + 3 := by rw [wrap_ok (by omega) (by omega)]; omega
      have w4 : IntKind.i64.wrap (kk + 3 + 1) = kk + 4 := by rw [wrap_ok (by omega) (by omega)]; omega
      have w5 : IntKind.i64.wrap (kk + 4 + 1) = kk + 5 := by rw [wrap_ok (by omega) (by omega)]; omega
      have w6 : IntKind.i64.wrap (kk + 5 + 1) = kk + 6 := by rw [wrap_ok (by omega) (by omega)]; omega
      have w7 : IntKind.i64.wrap (kk + 6 + 1) = kk + 7 := by rw [wrap_ok (by omega) (by omega)]; omega
      have w8 : IntKind.i64.wrap (kk + 7 + 1) = kk + 8 := by rw [wrap_ok (by omega) (by omega)]; omega
      have bn : ∀ x : Int, (x != x) = false := fun x => by simp
      simp only [hkk]
      simp -implicitDefEqProofs only [go_sem, hil', hl]
      (repeat' (first | ((with_reducible first | refine gon ?_ ?_ | refine gos ?_ ?_ | refine cdn ?_ ?_ | refine cds ?_ ?_ | refine gpn ?_ ?_ | refine gps ?_ ?_) <;> intro h <;> (try simp only [dt, df, gi, gt] at h) <;> try simp -implicitDefEqProofs only [go_sem, *]) | ((with_reducible refine And.intro ?_ ?_); (· first | omega | (simp only [List.length_take]; omega)); try simp -implicitDefEqProofs only [go_sem, *]) | fail))
      refine ⟨i + 1, by omega, by omega, ?_⟩
      rw [hk']
      refine wk_tm ?_; repeat (first | exact WL.nil | (with_reducible refine WL.any _ _ _ ?_) | (with_reducible refine WL.same _ _ _ ?_) | (refine WL.eq _ _ _ _ rfl ?_))
    · have e : i = n := by omega
      subst e
      have hil' : ¬ (i : Int) < (i : Int) := by omega
      simp -implicitDefEqProofs only [go_sem, hil', hl]
      exact fin_pu rfl rfl
theorem heldEngine_fn (e : Eng) (h : e.mid) : Fn1 Tryz.prog 16 [eA (markE 1 e), I 1] (I (1 + (cntE e : Int))) := by
  obtain ⟨_, hcd, hcm⟩ := h.low
  have c1 := heldPageS_fn e.disk 1 (by omega) h.disk h.dv
  have c2 := heldPageS_fn e.mem (1 + (cntPs e.disk : Int)) (by omega) h.mem h.mv
  have c3 := heldRecS_fn e.log.length (1 + (cntPs e.disk : Int) + (cntPs e.mem : Int)) (by omega) h.log
  have g1 : ¬ (1 + (cntPs e.disk : Int) < 0) := by omega
  have g2 : ¬ (1 + (cntPs e.disk : Int) + (cntPs e.mem : Int) < 0) := by omega
  have g3 : ¬ (1 + (cntPs e.disk : Int) + (cntPs e.mem : Int) + 8 * (e.log.length : Int) < 0) := by omega
  have h3 := h.log
  have e1 : 1 + (cntE e : Int) = 1 + (cntPs e.disk : Int) + (cntPs e.mem : Int) + 8 * (e.log.length : Int) := by unfold cntE; omega
  rw [e1]
  refine fn1_of Tryz.func16 rfl rfl ?_
  unfold markE
  simp -implicitDefEqProofs only [go_sem, Tryz.f16]
  (repeat' (first | ((with_reducible first | refine gon ?_ ?_ | refine gos ?_ ?_ | refine cdn ?_ ?_ | refine cds ?_ ?_ | refine gpn ?_ ?_ | refine gps ?_ ?_) <;> intro h <;> (try simp only [dt, df, gi, gt] at h) <;> try simp -implicitDefEqProofs only [go_sem, *]) | ((with_reducible refine And.intro ?_ ?_); (· first | omega | (simp only [List.length_take]; omega)); try simp -implicitDefEqProofs only [go_sem, *]) | first | ((with_reducible refine enter_pu (c1) ?_ ?_ ?_); (· rfl); (· rfl); try simp -implicitDefEqProofs only [go_sem, *]) | ((with_reducible refine enter_pu (c2) ?_ ?_ ?_); (· rfl); (· rfl); try simp -implicitDefEqProofs only [go_sem, *]) | ((with_reducible refine enter_pu (c3) ?_ ?_ ?_); (· rfl); (· rfl); try simp -implicitDefEqProofs only [go_sem, *])))
  all_goals exact fin_pu rfl rfl
end
section
attribute [local go_sem] slt_r slt_I slt_p
@[local go_sem] theorem scs_app {mv : List Nat} {A B : Store} : (A ++ B).map (Option.map fun o => (⟨o.z, o.es.map (AV.sc1 mv)⟩ : AObj)) = A.map (Option.map fun o => (⟨o.z, o.es.map (AV.sc1 mv)⟩ : AObj)) ++ B.map (Option.map fun o => (⟨o.z, o.es.map (AV.sc1 mv)⟩ : AObj)) := List.map_append
@[local go_sem] theorem app_d {l : List Dq} {j : Nat} {a b : Int} {v : List Int} : l.map dA ++ [.agg [I a, I b, .own j 1 0 v.length]] = (l ++ [(⟨j, ⟨a, b, v⟩⟩ : Dq)]).map dA := by simp
theorem pur_d (m : Nat) : ∀ (b : Nat) (ps : List Pg), m < b → ((dps b ps).map dA).all (AV.pur m) = true
  | _, [], _ => rfl
  | b, p :: ps, h => by
    rw [dps, List.map_cons, List.all_cons, pur_d m (b + 1) ps (by omega)]
    simp [AV.pur, AV.nm0, AV.pur0]
    omega
@[local go_sem] theorem pur_d1 {m : Nat} {ps : List Pg} : ((dps (m + 1) ps).map dA).all (AV.pur m) = true := pur_d m _ _ (by omega)
@[local go_sem] theorem pur_dx {m j n : Nat} {a b : Int} : AV.pur m (.agg [I a, I b, .own (m + j + 1) 1 0 n]) = true := by simp [AV.pur, AV.nm0, AV.pur0]; omega
@[local go_sem] theorem pur_d0 {j n : Nat} {a b : Int} : AV.pur 0 (.agg [I a, I b, .own (j + 1) 1 0 n]) = true := by simp [AV.pur, AV.nm0, AV.pur0]
@[local go_sem] theorem s_ne0 {n : Nat} : (n + 1 = 0) = False := by simp
@[local go_sem] theorem scs_v {mv : List Nat} {ps : List Pg} : (ps.map vO).map (Option.map fun o => (⟨o.z, o.es.map (AV.sc1 mv)⟩ : AObj)) = ps.map vO := by
  rw [List.map_map]
  refine List.map_congr_left fun p _ => ?_
  simp only [Function.comp, Option.map_some, List.map_map]
  congr 2
@[go_sem] theorem getO_app {X T : Store} {o : AObj} : getO (X ++ some o :: T) X.length = some o := by
  unfold getO
  simp
@[go_sem] theorem set_app {X T : Store} {o x : Option AObj} : (X ++ o :: T).set X.length x = X ++ x :: T := by
  rw [List.set_append_right _ _ (Nat.le_refl _), Nat.sub_self]
  rfl
theorem getO_at {A T : Store} {o : AObj} {i : Nat} (h : i = A.length) : getO (A ++ some o :: T) i = some o := by
  subst h
  unfold getO
  simp
theorem getO_at1 {A T : Store} {o o2 : AObj} {i : Nat} (h : i = A.length) : getO (A ++ some o :: some o2 :: T) (i + 1) = some o2 := by
  subst h
  unfold getO
  rw [List.getElem?_append_right (by omega)]
  simp
theorem copies_deep (ps : List Pg) (hb : ps.length < 1000000) (hv : ∀ p ∈ ps, 0 < p.vals.length ∧ p.vals.length < 1000000) : Fn Tryz.prog 132 [pgs ps] (fun r S => r = .own 0 3 0 ps.length ∧ S = dP 0 ps) := by
  refine fn_of Tryz.func132 rfl rfl ?_
  simp -implicitDefEqProofs only [go_sem, Tryz.f132]
  refine cp_loop (fun i : Nat => ⟨(pgs ps :: .any :: nilS :: .own 0 3 0 i :: .any :: .any :: pgs ps :: I (ps.length : Int) :: I (i : Int) :: .any :: .any :: .any :: .any :: .any :: .any :: .any :: .any :: .any :: .any :: []), dP 0 (ps.take i), [0]⟩) (fun i => i ≤ ps.length) (fun i => ps.length - i) 0 ?_ ?_ ?_
  · simp
  · refine WkN.trans (wk_nil 3 3 (by omega) rfl) (WkN.trans (wk_tm ?_) (wk_mv (by simp))); simp only [List.set_cons_succ, List.set_cons_zero, List.length_nil, List.length_cons]; repeat (first | exact WL.nil | (with_reducible refine WL.any _ _ _ ?_) | (with_reducible refine WL.same _ _ _ ?_) | (refine WL.eq _ _ _ _ rfl ?_))
  · rintro i hi
    have hb' : i < 4611686018427387904 := by omega
    by_cases hil : i < ps.length
    · have hil' : (i : Int) < (ps.length : Int) := by omega
      have hc := copied_own (at' ps (i : Int)) (hv _ (at_mem ps i hil)).1 (hv _ (at_mem ps i hil)).2
      have hdl : (dps 1 (ps.take i)).length = i := by rw [dps_len, List.length_take]; omega
      have hll : (ps.take i).length = i := by rw [List.length_take]; omega
      have hse : ∀ (o : Option AObj) (x : Option AObj) (T : Store), (List.map vO (ps.take i) ++ o :: T).set i x = List.map vO (ps.take i) ++ x :: T := fun o x T => by rw [List.set_append_right _ _ (by rw [List.length_map, hll]; exact Nat.le_refl _), List.length_map, hll, Nat.sub_self]; rfl
      have hgo : ∀ o : AObj, ∀ T : Store, getO (List.map vO (ps.take i) ++ some o :: T) i = some o := fun o T => getO_at (by rw [List.length_map, hll])
      have hgo3 : ∀ (a b : Option AObj) (c : AObj), getO (List.map vO (ps.take i) ++ [a] ++ [b] ++ [some c]) (i + 2) = some c := fun a b c => getO_len (by simp only [List.length_append, List.length_map, List.length_cons, List.length_nil, hll])
      have hgo2 : ∀ o o2 : AObj, ∀ T : Store, getO (List.map vO (ps.take i) ++ some o :: some o2 :: T) (i + 1) = some o2 := fun o o2 T => getO_at1 (by rw [List.length_map, hll])
      simp -implicitDefEqProofs only [go_sem, hil', hb', dP]
      (repeat' (first | ((with_reducible first | refine gon ?_ ?_ | refine gos ?_ ?_ | refine cdn ?_ ?_ | refine cds ?_ ?_ | refine gpn ?_ ?_ | refine gps ?_ ?_) <;> intro h <;> (try simp only [dt, df, gi, gt] at h) <;> try simp -implicitDefEqProofs only [go_sem, *]) | ((with_reducible refine And.intro ?_ ?_); (· first | omega | (simp only [List.length_take]; omega)); try simp -implicitDefEqProofs only [go_sem, *]) | ((with_reducible refine enter_fn (hc) ?_ ?_); (· rfl); try simp -implicitDefEqProofs only [go_sem, *])))
      refine ⟨⟨by omega, ?_⟩, i + 1, by omega, by omega, ?_⟩
      · rw [List.map_append, all_app, pur_d1]
        rfl
      have hK0 : ∀ k, k ≤ i → (List.range (i + 1) ++ [i + 2])[k]? = some k := fun k hk => by rw [List.getElem?_append_left (by rw [List.length_range]; omega), List.getElem?_range (by omega)]
      have hK1 : (List.range (i + 1) ++ [i + 2])[i + 1]? = some (i + 2) := by rw [List.getElem?_append_right (by rw [List.length_range]; omega), List.length_range, Nat.sub_self]; rfl
      refine WkN.trans (wk_tm (tm' := (pgs ps :: .any :: nilS :: .own 0 3 0 (i + 1) :: .any :: .any :: pgs ps :: I (ps.length : Int) :: I ((i + 1 : Nat) : Int) :: .any :: .any :: .any :: .any :: .any :: .any :: .any :: .any :: .any :: .any :: [])) ?_) (WkN.trans (wk_keep (List.range (i + 1) ++ [i + 2]) (S' := dP 0 (ps.take (i + 1))) ?_ ?_ ?_ ?_ ?_ ?_) (wk_mv (by simp)))
      · repeat (first | exact WL.nil | (with_reducible refine WL.any _ _ _ ?_) | (with_reducible refine WL.same _ _ _ ?_) | (refine WL.eq _ _ _ _ rfl ?_))
      · rw [List.nodup_append]
        exact ⟨List.nodup_range, by simp, fun a ha b hb => by rw [List.mem_range] at ha; rw [List.mem_singleton] at hb; omega⟩
      · rw [dP_len, List.length_append, List.length_range, List.length_take, List.length_cons, List.length_nil]
        omega
      · simp
      · intro j k hj
        rcases Nat.lt_or_ge j (i + 1) with h | h
        · rw [hK0 j (by omega)] at hj
          cases hj
          rcases j with _ | m
          · refine ⟨_, ⟨3, (dps 1 (ps.take (i + 1))).map dA⟩, rfl, rfl, rfl, ?_⟩
            rw [take_succ hil, dps_app, List.map_append, List.map_append]
            refine a2_app (a2_dps 1 _ fun k h1 h2 => hK0 k (by omega)) ?_
            rw [hll, Nat.add_comm 1 i]
            exact .cons _ _ _ _ (.agg _ _ (.cons _ _ _ _ (.same _ rfl) (.cons _ _ _ _ (.same _ rfl) (.cons _ _ _ _ (.own _ _ _ _ _ hK1) .nil)))) .nil
          · refine ⟨⟨1, (at' ps (m : Int)).vals.map I⟩, ⟨1, (at' ps (m : Int)).vals.map I⟩, ?_, ?_, rfl, a2_I _ _⟩
            · unfold getO
              rw [List.getElem?_cons_succ, List.append_assoc, List.append_assoc, List.getElem?_append_left (by rw [List.length_map, hll]; omega), List.getElem?_map, List.getElem?_take_of_lt (by omega), List.getElem?_eq_getElem (by omega)]
              simp [at', List.getD, List.getElem?_eq_getElem (show m < ps.length by omega)]
            · unfold dP
              rw [List.getElem?_cons_succ, List.getElem?_map, List.getElem?_take_of_lt (by omega), List.getElem?_eq_getElem (by omega)]
              simp [at', List.getD, List.getElem?_eq_getElem (show m < ps.length by omega)]
        · have hj2 : j < (List.range (i + 1) ++ [i + 2]).length := (List.getElem?_eq_some_iff.1 hj).1
          rw [List.length_append, List.length_range, List.length_cons, List.length_nil] at hj2
          have e : j = i + 1 := by omega
          subst e
          rw [hK1] at hj
          cases hj
          refine ⟨⟨1, (at' ps (i : Int)).vals.map I⟩, ⟨1, (at' ps (i : Int)).vals.map I⟩, ?_, ?_, rfl, a2_I _ _⟩
          · show getO (List.map vO (ps.take i) ++ [_] ++ [_] ++ [_]) (i + 1) = _
            rw [List.append_assoc, List.append_assoc]
            exact getO_at1 (by rw [List.length_map, hll])
          · unfold dP
            rw [List.getElem?_cons_succ, take_succ hil, List.map_append, List.getElem?_append_right (by rw [List.length_map, hll]; omega), List.length_map, hll, Nat.sub_self]
            rfl
      · intro k hk
        exact hK0 k (by omega)
      · (repeat (first | exact All2.nil | (refine All2.cons _ _ _ _ ?_ ?_; (· first | exact RnA.any _ | exact RnA.rn _ _ rnT_prim | exact RnA.rn _ _ rnT_sl | exact RnA.rn _ _ (rt_own _ (hK0 0 (by omega))) | exact RnA.rn _ _ (rnT_ref (hK0 0 (by omega)))))))
    · have hil' : ¬ (i : Int) < (ps.length : Int) := by omega
      have e : i = ps.length := by omega
      subst e
      simp -implicitDefEqProofs only [go_sem, hil']
      rw [List.take_length]
      refine fin_tail 0 (X0 := dP 0 ps) (r0 := .own 0 3 0 ps.length) (by rw [sh_dP]; rfl) (Nat.zero_le _) (by rw [dP_len]; exact cl_dP (by omega)) rfl (by simp only [AV.cl, AV.cl1, AV.cl0, dP_len, decide_eq_true_eq]; omega) ⟨rfl, rfl⟩
theorem copiedE_deep (e : Eng) (hd : Sz e.disk) (hm : Sz e.mem) (hl : e.log.length < 1000000) : Fn Tryz.prog 103 [eA e] (fun r S => r = dE 0 e ∧ S = dS 0 e) := by
  have h3 : ∀ {ps : List Pg}, Sz ps → ps.length = 5 ∧ ∀ p ∈ ps, 0 < p.vals.length ∧ p.vals.length < 1000000 := fun {ps} h => ⟨h.len, fun p hm => by have h5 := h.len; obtain ⟨k, hk, rfl⟩ := mem_at hm; rw [h.sz k (by omega)]; omega⟩
  have c1 := copies_deep e.disk (by rw [(h3 hd).1]; omega) (h3 hd).2
  have c2 := copies_deep e.mem (by rw [(h3 hm).1]; omega) (h3 hm).2
  have c3 := CloneR_own e.log hl
  refine fn_of Tryz.func103 rfl rfl ?_
  simp -implicitDefEqProofs only [go_sem, Tryz.f103]
  (repeat' (first | ((with_reducible first | refine gon ?_ ?_ | refine gos ?_ ?_ | refine cdn ?_ ?_ | refine cds ?_ ?_ | refine gpn ?_ ?_ | refine gps ?_ ?_) <;> intro h <;> (try simp only [dt, df, gi, gt] at h) <;> try simp -implicitDefEqProofs only [go_sem, *]) | ((with_reducible refine And.intro ?_ ?_); (· first | omega | (simp only [List.length_take]; omega)); try simp -implicitDefEqProofs only [go_sem, *]) | fail))
  refine cp_drawG (id := 1) 15 (fun S => getO S 0 = some ⟨5, [eA e]⟩) mixed rfl ?_
  ((refine expG_get 0 (.ref 0 5 0 0) rfl ?_ ?_ ?_ ?_ ?_); (· decide +kernel); (· decide +kernel); (· rfl); (· (intro S hS0; simp -implicitDefEqProofs only [go_sem, hS0, *])); try simp -implicitDefEqProofs only [go_sem, List.set_cons_succ, List.set_cons_zero])
  ((refine expG_get 1 (pgs e.disk) rfl ?_ ?_ ?_ ?_ ?_); (· decide +kernel); (· decide +kernel); (· rfl); (· (intro S hS0; simp -implicitDefEqProofs only [go_sem, hS0, *])); try simp -implicitDefEqProofs only [go_sem, List.set_cons_succ, List.set_cons_zero])
  ((refine expG_get 3 (.ref 0 5 0 1) rfl ?_ ?_ ?_ ?_ ?_); (· decide +kernel); (· decide +kernel); (· rfl); (· (intro S hS0; simp -implicitDefEqProofs only [go_sem, hS0, *])); try simp -implicitDefEqProofs only [go_sem, List.set_cons_succ, List.set_cons_zero])
  ((refine expG_get 4 (pgs e.mem) rfl ?_ ?_ ?_ ?_ ?_); (· decide +kernel); (· decide +kernel); (· rfl); (· (intro S hS0; simp -implicitDefEqProofs only [go_sem, hS0, *])); try simp -implicitDefEqProofs only [go_sem, List.set_cons_succ, List.set_cons_zero])
  ((refine expG_get 6 (.ref 0 5 0 2) rfl ?_ ?_ ?_ ?_ ?_); (· decide +kernel); (· decide +kernel); (· rfl); (· (intro S hS0; simp -implicitDefEqProofs only [go_sem, hS0, *])); try simp -implicitDefEqProofs only [go_sem, List.set_cons_succ, List.set_cons_zero])
  ((refine expG_get 7 (recs e.log) rfl ?_ ?_ ?_ ?_ ?_); (· decide +kernel); (· decide +kernel); (· rfl); (· (intro S hS0; simp -implicitDefEqProofs only [go_sem, hS0, *])); try simp -implicitDefEqProofs only [go_sem, List.set_cons_succ, List.set_cons_zero])
  ((refine expG_get 9 (.ref 0 5 0 3) rfl ?_ ?_ ?_ ?_ ?_); (· decide +kernel); (· decide +kernel); (· rfl); (· (intro S hS0; simp -implicitDefEqProofs only [go_sem, hS0, *])); try simp -implicitDefEqProofs only [go_sem, List.set_cons_succ, List.set_cons_zero])
  ((refine expG_get 10 (I e.safe) rfl ?_ ?_ ?_ ?_ ?_); (· decide +kernel); (· decide +kernel); (· rfl); (· (intro S hS0; simp -implicitDefEqProofs only [go_sem, hS0, *])); try simp -implicitDefEqProofs only [go_sem, List.set_cons_succ, List.set_cons_zero])
  ((refine expG_get 11 (.ref 0 5 0 4) rfl ?_ ?_ ?_ ?_ ?_); (· decide +kernel); (· decide +kernel); (· rfl); (· (intro S hS0; simp -implicitDefEqProofs only [go_sem, hS0, *])); try simp -implicitDefEqProofs only [go_sem, List.set_cons_succ, List.set_cons_zero])
  ((refine expG_get 12 (Bo e.down) rfl ?_ ?_ ?_ ?_ ?_); (· decide +kernel); (· decide +kernel); (· rfl); (· (intro S hS0; simp -implicitDefEqProofs only [go_sem, hS0, *])); try simp -implicitDefEqProofs only [go_sem, List.set_cons_succ, List.set_cons_zero])
  ((with_reducible refine expG_one 2 ?_ ?_); (· decide +kernel); try simp -implicitDefEqProofs only [go_sem, *])
  clear h3
  (repeat' (first | ((with_reducible first | refine gon ?_ ?_ | refine gos ?_ ?_ | refine cdn ?_ ?_ | refine cds ?_ ?_ | refine gpn ?_ ?_ | refine gps ?_ ?_) <;> intro h <;> (try simp only [dt, df, gi, gt] at h) <;> try simp -implicitDefEqProofs only [go_sem, *]) | ((with_reducible refine And.intro ?_ ?_); (· first | omega | (simp only [List.length_take]; omega)); try simp -implicitDefEqProofs only [go_sem, *]) | first | ((with_reducible refine enter_fn (c1) ?_ ?_); (· rfl); try simp -implicitDefEqProofs only [go_sem, *]) | ((with_reducible refine enter_fn (c2) ?_ ?_); (· rfl); try simp -implicitDefEqProofs only [go_sem, *]) | ((with_reducible refine enter_fn (c3) ?_ ?_); (· rfl); try simp -implicitDefEqProofs only [go_sem, *]) | ((with_reducible refine expG_one 5 ?_ ?_); (· decide +kernel); try simp -implicitDefEqProofs only [go_sem, *]) | ((with_reducible refine expG_one 8 ?_ ?_); (· decide +kernel); try simp -implicitDefEqProofs only [go_sem, *]) | ((with_reducible refine expG_one 13 ?_ ?_); (· decide +kernel); try simp -implicitDefEqProofs only [go_sem, *]) | ((with_reducible refine expG_one 14 ?_ ?_); (· decide +kernel); try simp -implicitDefEqProofs only [go_sem, *]) | ((with_reducible refine expG_end ?_ ?_); (· decide +kernel); try simp -implicitDefEqProofs only [go_sem, *])))
  simp only [shS_len, dP_len]
  have e1 : shS 2 (dP 0 e.disk) = dP 2 e.disk := sh_dP 2 0 _
  have e2 : shS (1 + e.disk.length + 1 + 1) (dP 0 e.mem) = dP (2 + (1 + e.disk.length)) e.mem := by rw [sh_dP]; congr 1; omega
  rw [e1, e2]
  refine fin_tail 2 (X0 := dS 0 e) (r0 := dE 0 e) ?_ (by simp) (by rw [dS_len]; exact cl_dS (by omega)) ?_ (by rw [dS_len]; exact cl_dE (by omega)) ⟨rfl, rfl⟩
  · rw [sh_dS, List.append_assoc]
    rfl
  · rw [sh_dE, show 1 + e.disk.length + 1 + 1 = 2 + 0 + (1 + e.disk.length) by omega, show 1 + e.disk.length + (1 + e.mem.length) + 1 + 1 = 2 + 0 + (2 + e.disk.length + e.mem.length) by omega]
end
section
attribute [local go_sem] slt_r slt_I slt_p
/-- What a function that returns an engine of its own hands back: nothing, or all of it. -/
abbrev dR (q : Eng × Bool) : AV := .tup [dE 0 q.1, Bo q.2]
theorem fin_dE2 {o1 o2 : Option AObj} {X B : Store} {a b c : Nat} {mv : List Nat} (e : Eng) {bb : Bool} (hX : X = dS 2 e) (h1 : a = 2) (h2 : b = 3 + e.disk.length) (h3 : c = 4 + e.disk.length + e.mem.length) :
    Fin 0 (.tup [.agg [.own a 3 0 e.disk.length, .own b 3 0 e.mem.length, .own c 8 0 e.log.length, I e.safe, Bo e.down], Bo bb]) (o1 :: o2 :: (X ++ B)) mv (fun r S' mv => (r = dR (e, bb) ∧ S' = dS 0 e) ∧ mv = []) := by
  subst hX h1 h2 h3
  refine fin_row 2 (A := [o1, o2]) (X0 := dS 0 e) (B := B) (r0 := dR (e, bb)) ?_ rfl (by rw [dS_len]; exact cl_dS (by omega)) ?_ ?_ ⟨rfl, rfl⟩
  · rw [sh_dS]
    rfl
  · have := sh_dE 2 0 e
    simp only [AV.sh] at this ⊢
    rw [List.map_cons, this, show 3 + e.disk.length = 2 + 0 + (1 + e.disk.length) by omega, show 4 + e.disk.length + e.mem.length = 2 + 0 + (2 + e.disk.length + e.mem.length) by omega]
    rfl
  · simp only [AV.cl, List.all_cons, List.all_nil, Bool.and_true]
    rw [dS_len, cl_dE (by omega)]
    rfl
/-- An engine's value whose objects begin at n. -/
abbrev dV (n n1 n2 : Nat) (e : Eng) : AV := .agg [.own n 3 0 e.disk.length, .own n1 3 0 e.mem.length, .own n2 8 0 e.log.length, I e.safe, Bo e.down]
theorem dV_eq {n n1 n2 : Nat} {e : Eng} (h1 : n + (1 + e.disk.length) = n1) (h2 : n + (2 + e.disk.length + e.mem.length) = n2) : dV n n1 n2 e = dE n e := by subst h1 h2; rfl
section
variable {P : Program}
theorem enter_fnE {f : FuncId} {args : List AV} {e : Eng} {d : Tmp} {tm : List AV} {S : Store} {mv : List Nat} {K : St → Prop} (n n1 n2 : Nat) (hn : S.length = n) (h1 : n + (1 + e.disk.length) = n1) (h2 : n + (2 + e.disk.length + e.mem.length) = n2)
    (h : Fn P f args (fun r S' => r = dE 0 e ∧ S' = dS 0 e)) (hp : args.all AV.pu = true) (hk : ∀ A, A = S ++ dS n e → K ⟨tm.set d (dV n n1 n2 e), A, mv⟩) : afterR P (.enter f args) (some d) ⟨tm, S, mv⟩ K := by
  refine enter_fn h hp ?_
  rw [hn, sh_dE, sh_dS, Nat.add_zero, ← dV_eq h1 h2]
  exact hk _ rfl
theorem enter_seeE {f : FuncId} {args args' : List AV} {e : Eng} {b : Bool} {d : Tmp} {tm : List AV} {S : Store} {mv : List Nat} {K : St → Prop} (n n1 n2 : Nat) (hn : S.length = n) (h1 : n + (1 + e.disk.length) = n1) (h2 : n + (2 + e.disk.length + e.mem.length) = n2)
    (h : Fn P f args' (fun r S' => r = dR (e, b) ∧ S' = dS 0 e)) (ha : All2 (Sees S true) args args') (hk : ∀ B, B = dS n e → K ⟨tm.set d (.tup [dV n n1 n2 e, Bo b]), S ++ B, mv⟩) : afterR P (.enter f args) (some d) ⟨tm, S, mv⟩ K := by
  refine enter_see h ha rfl flat_dS ?_
  have e1 : (dR (e, b)).sh n = .tup [dV n n1 n2 e, Bo b] := by
    have := sh_dE n 0 e
    simp only [AV.sh] at this ⊢
    rw [List.map_cons, this, Nat.add_zero, ← dV_eq h1 h2]
    rfl
  rw [hn, e1, sh_dS, Nat.add_zero]
  exact hk _ rfl
end
theorem see_dV {S : Store} {n n1 n2 : Nat} {e : Eng} (h1 : n + (1 + e.disk.length) = n1) (h2 : n + (2 + e.disk.length + e.mem.length) = n2) (h : Has S n (dS n e)) : Sees S true (dV n n1 n2 e) (eA e) := by
  rw [dV_eq h1 h2]
  exact see_dE h
theorem has_mid {A X T : Store} {n : Nat} (h : A.length = n) : Has (A ++ (X ++ T)) n X := by
  rw [← List.append_assoc]
  exact Has.mid h
theorem getO_app2 {A B T : Store} {c : Option AObj} {o : AObj} {n b : Nat} (hA : A.length = n) (hB : B.length = b) : getO (A ++ c :: (B ++ some o :: T)) (n + (b + 1)) = some o := by
  subst hA hB
  unfold getO
  rw [List.getElem?_append_right (by omega), Nat.add_sub_cancel_left, List.getElem?_cons_succ, List.getElem?_append_right (Nat.le_refl _), Nat.sub_self]
  rfl
theorem set_app2 {A B T : Store} {c o x : Option AObj} {n b : Nat} (hA : A.length = n) (hB : B.length = b) : (A ++ c :: (B ++ o :: T)).set (n + (b + 1)) x = A ++ c :: (B ++ x :: T) := by
  subst hA hB
  rw [List.set_append_right _ _ (by omega), Nat.add_sub_cancel_left, List.set_cons_succ, List.set_append_right _ _ (Nat.le_refl _), Nat.sub_self]
  rfl
theorem getO_app3 {A B T : Store} {c d : Option AObj} {o : AObj} {n b : Nat} (hA : A.length = n) (hB : B.length = b) : getO (A ++ c :: (B ++ d :: some o :: T)) (n + (b + 1 + 1)) = some o := by
  have := getO_app2 (A := A) (B := B ++ [d]) (T := T) (c := c) (o := o) (n := n) (b := b + 1) hA (by simp [hB])
  simpa using this
theorem set_app3 {A B T : Store} {c d o x : Option AObj} {n b : Nat} (hA : A.length = n) (hB : B.length = b) : (A ++ c :: (B ++ d :: o :: T)).set (n + (b + 1 + 1)) x = A ++ c :: (B ++ d :: x :: T) := by
  have := set_app2 (A := A) (B := B ++ [d]) (T := T) (c := c) (o := o) (x := x) (n := n) (b := b + 1) hA (by simp [hB])
  simpa using this
theorem has_app2 {A B T : Store} {c : Option AObj} {n : Nat} (hA : A.length = n) : Has (A ++ c :: (B ++ T)) (n + 1) B := by
  have : A ++ c :: (B ++ T) = (A ++ [c]) ++ (B ++ T) := by simp
  rw [this]
  exact has_mid (by simp [hA])
theorem dE_mark {n : Nat} {k : Int} {e : Eng} : dE n (markE k e) = dE n e := by simp [markE, markPs_len, markRs_len]
theorem dS_mark_len {n : Nat} {k : Int} {e : Eng} : (dS n (markE k e)).length = (dS n e).length := by simp [dS_len, markE, markPs_len]
abbrev zA : AV := .agg [.prim (.slice none 0 0), .prim (.slice none 0 0), .prim (.slice none 0 0), I 0, Bo false]
theorem see_z {S : Store} : Sees S true zA (eA zeroE) := see_arg (.agg _ _ (.cons _ _ _ _ (.nil 3 (by decide)) (.cons _ _ _ _ (.nil 3 (by decide)) (.cons _ _ _ _ (.nil 8 (by decide)) (.cons _ _ _ _ (.same _ rfl) (.cons _ _ _ _ (.same _ rfl) .nil))))))
theorem see_zA {S : Store} {b : Bool} : Sees S true (.tup [zA, Bo b]) (.tup [eA zeroE, Bo b]) := see_tup (.cons _ _ _ _ see_z (.cons _ _ _ _ (see_same rfl) .nil))
theorem fin_z {S : Store} {mv : List Nat} {b : Bool} : Fin 0 (.tup [zA, Bo b]) S mv (fun r S' mv => (r = .tup [zA, Bo b] ∧ S' = []) ∧ mv = []) :=
  fin_keep [] (by simp) rfl (fun j i hj => by simp at hj) (.tup _ _ (.cons _ _ _ _ (.agg _ _ (a2_same rfl)) (.cons _ _ _ _ (.of _ _ (.same _ rfl)) .nil))) ⟨rfl, rfl⟩
theorem zeroE_mid : zeroE.mid := ⟨by decide, by decide, by decide, fun p hp => (by cases hp), fun p hp => (by cases hp)⟩
theorem markPageS_z (k : Int) : Fn1 Tryz.prog 52 [.prim (.slice none 0 0), I k] (I k) := by
  refine fn1_of Tryz.func52 rfl rfl ?_
  simp -implicitDefEqProofs only [go_sem, Tryz.f52]
  refine cp_loop (fun i : Nat => ⟨(nilS :: I k :: .any :: .any :: I 0 :: I 0 :: .any :: .any :: .any :: .any :: .any :: .any :: .any :: .any :: .any :: .any :: .any :: .any :: .any :: .any :: .any :: .any :: .any :: .any :: .any :: .any :: .any :: .any :: .any :: .any :: .any :: .any :: .any :: .any :: []), [], []⟩) (fun i => i = 0) (fun i => i) 0 rfl ?_ ?_
  · refine wk_tm ?_; repeat (first | exact WL.nil | (with_reducible refine WL.any _ _ _ ?_) | (with_reducible refine WL.same _ _ _ ?_) | (refine WL.eq _ _ _ _ rfl ?_))
  · rintro i rfl
    simp -implicitDefEqProofs only [go_sem, true_and]
    exact fin_pu rfl rfl
theorem markRecS_z (k : Int) : Fn1 Tryz.prog 53 [.prim (.slice none 0 0), I k] (I k) := by
  refine fn1_of Tryz.func53 rfl rfl ?_
  simp -implicitDefEqProofs only [go_sem, Tryz.f53]
  refine cp_loop (fun i : Nat => ⟨(nilS :: I k :: .any :: .any :: I 0 :: I 0 :: .any :: .any :: .any :: .any :: .any :: .any :: .any :: .any :: .any :: .any :: .any :: .any :: .any :: .any :: .any :: .any :: .any :: .any :: .any :: .any :: .any :: .any :: .any :: .any :: .any :: .any :: .any :: .any :: .any :: .any :: .any :: .any :: .any :: .any :: .any :: .any :: .any :: .any :: .any :: .any :: .any :: .any :: .any :: .any :: .any :: .any :: .any :: .any :: .any :: .any :: .any :: .any :: .any :: .any :: .any :: .any :: .any :: .any :: .any :: .any :: .any :: .any :: .any :: []), [], []⟩) (fun i => i = 0) (fun i => i) 0 rfl ?_ ?_
  · refine wk_tm ?_; repeat (first | exact WL.nil | (with_reducible refine WL.any _ _ _ ?_) | (with_reducible refine WL.same _ _ _ ?_) | (refine WL.eq _ _ _ _ rfl ?_))
  · rintro i rfl
    simp -implicitDefEqProofs only [go_sem, true_and]
    exact fin_pu rfl rfl
theorem markZ : Fn1 Tryz.prog 14 [zA, I 1] (I 1) := by
  refine fn1_of Tryz.func14 rfl rfl ?_
  simp -implicitDefEqProofs only [go_sem, Tryz.f14]
  (repeat' (first | ((with_reducible first | refine gon ?_ ?_ | refine gos ?_ ?_ | refine cdn ?_ ?_ | refine cds ?_ ?_ | refine gpn ?_ ?_ | refine gps ?_ ?_) <;> intro h <;> (try simp only [dt, df, gi, gt] at h) <;> try simp -implicitDefEqProofs only [go_sem, *]) | ((with_reducible refine And.intro ?_ ?_); (· first | omega | (simp only [List.length_take]; omega)); try simp -implicitDefEqProofs only [go_sem, *]) | first | ((with_reducible refine enter_pu (markPageS_z 1) ?_ ?_ ?_); (· rfl); (· rfl); try simp -implicitDefEqProofs only [go_sem, *]) | ((with_reducible refine enter_pu (markRecS_z 1) ?_ ?_ ?_); (· rfl); (· rfl); try simp -implicitDefEqProofs only [go_sem, *])))
  exact fin_pu rfl rfl
theorem Eng.mid.small {e : Eng} (h : e.mid) : e.small := ⟨by have := h.disk; omega, by have := h.mem; omega, by have := h.log; omega, fun p hp => by have := h.dv p hp; omega, fun p hp => by have := h.mv p hp; omega⟩
end
end Go.Proofs.YtfcnajhanjhonaaGreat.Am
end
section
set_option linter.unusedVariables false
set_option linter.unusedSimpArgs false
set_option maxRecDepth 100000
set_option maxHeartbeats 8000000
namespace Go.Proofs.YtfcnajhanjhonaaGreat.Am
open Go Go.RowKit Go.Proofs
attribute [local congr] opsP_congr codeP_congr AWP_congr afterR_congr preP_congr afterPre_congr gPre_congr gOps_congr condP_congr stepE_congr
attribute [local go_sem] ty_int ty_bool ty_str ty_u8 ty_ints ty_bytes ty_page ty_pages ty_lpage ty_lpages ty_rec ty_recs ty_lrec ty_lrecs ty_eng ty_leng
attribute [local go_sem] true_and and_true beq_true' beq_false' toNat_cast Int.natCast_nonneg Bool.not_not Bool.not_true Bool.not_false decide_true decide_false Bool.or_false Bool.false_or Bool.or_true Bool.true_or Bool.and_false Bool.false_and Nat.zero_add Int.toNat_of_nonneg wrap_succ wrap_m1 wrap_nat succ_m1 cast0 succ_pos' succ_ne' succ_bne' ge_iff_le gt_iff_lt if_true if_false
attribute [local go_sem] slt_r slt_I slt_p
theorem list5 {α : Type} [Inhabited α] {l : List α} (h : l.length = 5) : ∃ a b c d e, l = [a, b, c, d, e] := by
  rcases l with _ | ⟨a, _ | ⟨b, _ | ⟨c, _ | ⟨d, _ | ⟨e, _ | ⟨f, l⟩⟩⟩⟩⟩⟩ <;> simp at h
  exact ⟨a, b, c, d, e, rfl⟩
/-- The objects of an engine, one by one. -/
def s13 (b : Nat) (e : Eng) : Store := [oD (b + 1) e.disk, vO (at' e.disk 0), vO (at' e.disk 1), vO (at' e.disk 2), vO (at' e.disk 3), vO (at' e.disk 4), oD (b + 7) e.mem, vO (at' e.mem 0), vO (at' e.mem 1), vO (at' e.mem 2), vO (at' e.mem 3), vO (at' e.mem 4), oR8 e.log]
theorem dS_13 {b : Nat} {e : Eng} (hd : e.disk.length = 5) (hm : e.mem.length = 5) : dS b e = s13 b e := by
  obtain ⟨ed, em, el, es, ew⟩ := e
  obtain ⟨a0, a1, a2, a3, a4, rfl⟩ := list5 hd
  obtain ⟨b0, b1, b2, b3, b4, rfl⟩ := list5 hm
  rfl
abbrev dW (e : Eng) : AV := .agg [.own 0 3 0 5, .own 6 3 0 5, .own 12 8 0 e.log.length, I e.safe, Bo e.down]
def sD (e : Eng) : Store := s13 0 e ++ [some ⟨5, [dW e]⟩]
@[local go_sem] theorem set_d' {l : List Dq} {k j : Nat} {a b : Int} {v : List Int} : (l.map dA).set k (.agg [I a, I b, .own j 1 0 v.length]) = (l.set k (⟨j, ⟨a, b, v⟩⟩ : Dq)).map dA := by rw [List.map_set]
theorem RnT_pu {K : List Nat} {r : AV} (h : r = .tup [] ∨ ∃ n, r = I n) : RnT K r r := by
  rcases h with rfl | ⟨n, rfl⟩
  · exact .tup _ _ .nil
  · exact rnT_prim
theorem fin_movK (K : List Nat) (mv' : List Nat) {n0 : Nat} {r r' : AV} {S S' : Store} {mv : List Nat} {Q : AV → Store → List Nat → Prop} (hn : K.Nodup) (hn0 : n0 ≤ K.length) (hk : Keeps K S K S')
    (hm : ∀ i, i < n0 → mv'.contains i = false → K[i]? = some i ∧ mv.contains i = false) (hr : RnT K r r') (h : Q r' S' mv') : Fin n0 r S mv Q :=
  fin_move K mv' hn hk.spec.1 hn0 (fun j i hj => by
    obtain ⟨o, o', h1, h2, h3, h4⟩ := hk.spec.2 j i hj
    exact ⟨o, o', by unfold getO; rw [h1], h2, h3, h4⟩) hm hr h
end Go.Proofs.YtfcnajhanjhonaaGreat.Am
end
section
set_option linter.unusedVariables false
set_option linter.unusedSimpArgs false
set_option maxRecDepth 100000
set_option maxHeartbeats 8000000
namespace Go.Proofs.YtfcnajhanjhonaaGreat.Am
open Go Go.RowKit Go.Proofs
attribute [local go_sem_proc] Nat.reduceAdd Nat.reduceSub Nat.reduceMul Nat.reduceLT Nat.reduceLeDiff Nat.reduceEqDiff Int.reduceBEq Int.reduceBNe Int.reduceNeg Int.reduceSub Int.reduceLE Int.reduceLT
attribute [local go_sem_proc ↓] reduceIte
attribute [local congr] opsP_congr codeP_congr AWP_congr afterR_congr preP_congr afterPre_congr gPre_congr gOps_congr condP_congr stepE_congr
attribute [local go_sem] ty_int ty_bool ty_str ty_u8 ty_ints ty_bytes ty_page ty_pages ty_lpage ty_lpages ty_rec ty_recs ty_lrec ty_lrecs ty_eng ty_leng
attribute [local go_sem] true_and and_true beq_true' beq_false' toNat_cast Int.natCast_nonneg Bool.not_not Bool.not_true Bool.not_false decide_true decide_false Bool.or_false Bool.false_or Bool.or_true Bool.true_or Bool.and_false Bool.false_and Nat.zero_add Int.toNat_of_nonneg wrap_succ wrap_m1 wrap_nat succ_m1 cast0 succ_pos' succ_ne' succ_bne' ge_iff_le gt_iff_lt if_true if_false
section
attribute [local go_sem] slt_r slt_I slt_p
theorem sc_dps {i : Nat} : ∀ (b : Nat) (ps : List Pg), (i < b ∨ b + ps.length ≤ i) → ((dps b ps).map dA).map (AV.sc1 [i]) = (dps b ps).map dA
  | _, [], _ => rfl
  | b, p :: ps, h => by
    simp only [List.length_cons] at h
    have ih := sc_dps (i := i) (b + 1) ps (by omega)
    have hne : ¬ b = i := by omega
    rw [dps, List.map_cons, List.map_cons, ih]
    simp [AV.sc1, AV.sc0, hne]
theorem cl_s13 {m b : Nat} {e : Eng} (hd : e.disk.length = 5) (hm : e.mem.length = 5) (h : b + 13 ≤ m) : (s13 b e).all (clO m) = true := by
  rw [← dS_13 hd hm]
  exact cl_dS (by omega)
theorem slt_sD {e : Eng} (hd : e.disk.length = 5) (hm : e.mem.length = 5) : sltB (sD e).length (sD e) = true := by
  refine slt_cl ?_
  unfold sD
  rw [List.all_append, cl_s13 hd hm (by simp [s13])]
  rfl
/-- The end of a function over an engine behind a pointer: what it made besides is dropped. -/
theorem fin_sD {e : Eng} {T : Store} {mv : List Nat} {r : AV} {Q : AV → Store → List Nat → Prop} (hd : e.disk.length = 5) (hm : e.mem.length = 5) (hr : r.ltB 14 = true) (h : Q r (sD e) mv) : Fin 14 r (sD e ++ T) mv Q :=
  fin_trunc (Nat.le_refl 14) hr (slt_sD hd hm) h
theorem addD (e : Eng) (r : Rc) (hd : Sz e.disk) (hm : Sz e.mem) (hl : e.log.length ≤ 1000) : AFn1 Tryz.prog 48 [.ref 13 5 0 0, rA r] (sD e) (I ((e.log.length + 1 : Nat) : Int)) (sD ⟨e.disk, e.mem, e.alog r, e.safe, e.down⟩) [12] := by
  have hd5 := hd.len
  have hm5 := hm.len
  have hs1 := sc_dps (i := 12) 1 e.disk (by omega)
  have hs2 := sc_dps (i := 12) 7 e.mem (by omega)
  have c1 := lastC e.log r.tx (by omega)
  refine afn1_of Tryz.func48 rfl rfl ?_
  unfold sD s13
  simp only [List.cons_append, List.nil_append, Nat.zero_add]
  simp -implicitDefEqProofs only [go_sem, Tryz.f48]
  refine cp_drawG (id := 1) 9 (fun S => getO S 13 = some ⟨5, [dW e]⟩) mixed rfl ?_
  ((refine expG_get 0 (.ref 13 5 0 0) rfl ?_ ?_ (by repeat (first | rfl | refine And.intro rfl ?_)) ?_ ?_); (· decide +kernel); (· decide +kernel); (· (intro S hS0; simp -implicitDefEqProofs only [go_sem, hS0, *])); try simp -implicitDefEqProofs only [go_sem, List.set_cons_succ, List.set_cons_zero])
  ((refine expG_get 1 (.ref 13 5 0 0) rfl ?_ ?_ (by repeat (first | rfl | refine And.intro rfl ?_)) ?_ ?_); (· decide +kernel); (· decide +kernel); (· (intro S hS0; simp -implicitDefEqProofs only [go_sem, hS0, *])); try simp -implicitDefEqProofs only [go_sem, List.set_cons_succ, List.set_cons_zero])
  ((refine expG_get 2 (.ref 13 5 0 2) rfl ?_ ?_ (by repeat (first | rfl | refine And.intro rfl ?_)) ?_ ?_); (· decide +kernel); (· decide +kernel); (· (intro S hS0; simp -implicitDefEqProofs only [go_sem, hS0, *])); try simp -implicitDefEqProofs only [go_sem, List.set_cons_succ, List.set_cons_zero])
  ((refine expG_get 3 (.own 12 8 0 e.log.length) rfl ?_ ?_ (by repeat (first | rfl | refine And.intro rfl ?_)) ?_ ?_); (· decide +kernel); (· decide +kernel); (· (intro S hS0; simp -implicitDefEqProofs only [go_sem, hS0, *])); try simp -implicitDefEqProofs only [go_sem, List.set_cons_succ, List.set_cons_zero])
  (repeat' (first | ((with_reducible first | refine gon ?_ ?_ | refine gos ?_ ?_ | refine cdn ?_ ?_ | refine cds ?_ ?_ | refine gpn ?_ ?_ | refine gps ?_ ?_) <;> intro h <;> (try simp only [dt, df, gi, gt] at h) <;> try simp -implicitDefEqProofs only [go_sem, *]) | ((with_reducible refine And.intro ?_ ?_); (· first | omega | (simp only [List.length_take]; omega)); try simp -implicitDefEqProofs only [go_sem, *]) | first | ((with_reducible refine expG_one 4 ?_ ?_); (· decide +kernel); try simp -implicitDefEqProofs only [go_sem, *]) | ((with_reducible refine expG_one 5 ?_ ?_); (· decide +kernel); try simp -implicitDefEqProofs only [go_sem, *]) | ((with_reducible refine expG_one 6 ?_ ?_); (· decide +kernel); try simp -implicitDefEqProofs only [go_sem, *])))
  refine enter_see1 c1 (.cons _ _ _ _ (see_recs rfl rfl) (.cons _ _ _ _ (see_same rfl) .nil)) rfl rfl ?_
  simp -implicitDefEqProofs only [go_sem, true_and]
  (repeat' (first | ((with_reducible first | refine gon ?_ ?_ | refine gos ?_ ?_ | refine cdn ?_ ?_ | refine cds ?_ ?_ | refine gpn ?_ ?_ | refine gps ?_ ?_) <;> intro h <;> (try simp only [dt, df, gi, gt] at h) <;> try simp -implicitDefEqProofs only [go_sem, *]) | ((with_reducible refine And.intro ?_ ?_); (· first | omega | (simp only [List.length_take]; omega)); try simp -implicitDefEqProofs only [go_sem, *]) | first | ((with_reducible refine expG_one 7 ?_ ?_); (· decide +kernel); try simp -implicitDefEqProofs only [go_sem, *]) | ((with_reducible refine expG_one 8 ?_ ?_); (· decide +kernel); try simp -implicitDefEqProofs only [go_sem, *]) | ((with_reducible refine expG_end ?_ ?_); (· decide +kernel); try simp -implicitDefEqProofs only [go_sem, *])))
  refine cp_drawW (id := 2) 11 mixed rfl ?_
  ((refine expW_move 0 rfl ?_ ?_ ?_ ?_); (· decide +kernel); (· decide +kernel); (· decide +kernel); simp -implicitDefEqProofs only [go_sem, *])
  ((refine expW_move 1 rfl ?_ ?_ ?_ ?_); (· decide +kernel); (· decide +kernel); (· decide +kernel); simp -implicitDefEqProofs only [go_sem, *])
  refine expW_P ?_
  (repeat' (first | ((with_reducible first | refine gon ?_ ?_ | refine gos ?_ ?_ | refine cdn ?_ ?_ | refine cds ?_ ?_ | refine gpn ?_ ?_ | refine gps ?_ ?_) <;> intro h <;> (try simp only [dt, df, gi, gt] at h) <;> try simp -implicitDefEqProofs only [go_sem, *]) | ((with_reducible refine And.intro ?_ ?_); (· first | omega | (simp only [List.length_take]; omega)); try simp -implicitDefEqProofs only [go_sem, *]) | first | ((with_reducible refine exp_end ?_ ?_); (· decide +kernel); try simp -implicitDefEqProofs only [go_sem, *]) | ((with_reducible refine exp_two 2 5 ?_ ?_ ?_); (· decide +kernel); all_goals (try simp -implicitDefEqProofs only [go_sem, *])) | ((with_reducible refine exp_two 3 5 ?_ ?_ ?_); (· decide +kernel); all_goals (try simp -implicitDefEqProofs only [go_sem, *])) | ((with_reducible refine exp_two 4 5 ?_ ?_ ?_); (· decide +kernel); all_goals (try simp -implicitDefEqProofs only [go_sem, *])) | ((with_reducible refine exp_two 2 6 ?_ ?_ ?_); (· decide +kernel); all_goals (try simp -implicitDefEqProofs only [go_sem, *])) | ((with_reducible refine exp_two 3 6 ?_ ?_ ?_); (· decide +kernel); all_goals (try simp -implicitDefEqProofs only [go_sem, *])) | ((with_reducible refine exp_two 4 6 ?_ ?_ ?_); (· decide +kernel); all_goals (try simp -implicitDefEqProofs only [go_sem, *])) | ((with_reducible refine exp_one 2 ?_ ?_); (· decide +kernel); try simp -implicitDefEqProofs only [go_sem, *]) | ((with_reducible refine exp_one 3 ?_ ?_); (· decide +kernel); try simp -implicitDefEqProofs only [go_sem, *]) | ((with_reducible refine exp_one 4 ?_ ?_); (· decide +kernel); try simp -implicitDefEqProofs only [go_sem, *]) | ((with_reducible refine exp_one 5 ?_ ?_); (· decide +kernel); try simp -implicitDefEqProofs only [go_sem, *]) | ((with_reducible refine exp_one 6 ?_ ?_); (· decide +kernel); try simp -implicitDefEqProofs only [go_sem, *]) | ((with_reducible refine exp_one 7 ?_ ?_); (· decide +kernel); try simp -implicitDefEqProofs only [go_sem, *]) | ((with_reducible refine exp_one 8 ?_ ?_); (· decide +kernel); try simp -implicitDefEqProofs only [go_sem, *]) | ((with_reducible refine exp_one 9 ?_ ?_); (· decide +kernel); try simp -implicitDefEqProofs only [go_sem, *]) | ((with_reducible refine exp_one 10 ?_ ?_); (· decide +kernel); try simp -implicitDefEqProofs only [go_sem, *])))
  all_goals
    rw [show e.log.length + 1 = (e.alog r).length from (alog_len e r).symm]
    exact fin_sD (e := ⟨e.disk, e.mem, e.alog r, e.safe, e.down⟩) (T := [_, _]) hd5 hm5 rfl ⟨rfl, rfl, rfl⟩
end
section
attribute [local go_sem] slt_r slt_I slt_p
end
end Go.Proofs.YtfcnajhanjhonaaGreat.Am
end
section
set_option linter.unusedVariables false
set_option linter.unusedSimpArgs false
set_option maxRecDepth 100000
set_option maxHeartbeats 8000000
namespace Go.Proofs.YtfcnajhanjhonaaGreat.Am
open Go Go.RowKit Go.Proofs
attribute [local congr] opsP_congr codeP_congr AWP_congr afterR_congr preP_congr afterPre_congr gPre_congr gOps_congr condP_congr stepE_congr
attribute [local go_sem] ty_int ty_bool ty_str ty_u8 ty_ints ty_bytes ty_page ty_pages ty_lpage ty_lpages ty_rec ty_recs ty_lrec ty_lrecs ty_eng ty_leng
attribute [local go_sem] true_and and_true beq_true' beq_false' toNat_cast Int.natCast_nonneg Bool.not_not Bool.not_true Bool.not_false decide_true decide_false Bool.or_false Bool.false_or Bool.or_true Bool.true_or Bool.and_false Bool.false_and Nat.zero_add Int.toNat_of_nonneg wrap_succ wrap_m1 wrap_nat succ_m1 cast0 succ_pos' succ_ne' succ_bne' ge_iff_le gt_iff_lt if_true if_false
section
attribute [local go_sem] slt_r slt_I slt_p
theorem filterMap_range {n m : Nat} : ∀ {M : List Nat}, (∀ j ∈ M, j < m) → M.filterMap (fun j => (List.range' n m)[j]?) = M.map (· + n)
  | [], _ => rfl
  | j :: M, h => by
    have hj : (List.range' n m)[j]? = some (j + n) := by rw [List.getElem?_range' (h j (by simp))]; simp [Nat.add_comm]
    rw [List.filterMap_cons, hj, filterMap_range fun k hk => h k (by simp [hk])]
    rfl
theorem scS_app {mv : List Nat} {A B : Store} : scS mv (A ++ B) = scS mv A ++ scS mv B := by rw [scS_eq, scS_eq, scS_eq, List.map_append]
theorem scS_len {mv : List Nat} {A : Store} : (scS mv A).length = A.length := by rw [scS_eq]; simp
section
variable {P : Program}
/-- As enter_mid; the callee may lay some of the objects elsewhere. -/
theorem enter_midM (n : Nat) {f : FuncId} {args args' : List AV} {A X0 X1 B T : Store} {r : AV} {M : List Nat} {d : Tmp} {tm : List AV} {mv : List Nat} {Kont : St → Prop} (M' : List Nat) (h : AFn1 P f args' X0 r X1 M) (hT : T = A ++ shS n X0 ++ B) (hn : A.length = n) (hl : X1.length = X0.length)
    (h0 : X0.all (clO X0.length) = true) (h1 : X1.all (clO X0.length) = true) (hr : r.cl X0.length = true) (ha : args = args'.map (AV.sh n)) (hac : args'.all (AV.cl X0.length) = true) (hM : ∀ j ∈ M, j < X0.length) (hM' : M.map (· + n) = M') (hA : scS M' A = A) (hB : scS M' B = B)
    (hc : Kont ⟨(scT M' tm).set d (r.sh n), A ++ shS n X1 ++ B, M' ++ mv⟩) : afterR P (.enter f args) (some d) ⟨tm, T, mv⟩ Kont := by
  subst hT ha
  refine enter_at1 (List.range' n X0.length) h List.nodup_range' (keeps_row X0 n h0 fun i hi => ?_) (a2_cl hac) (filterMap_range hM) ?_
  · rw [← hn]
    exact mid_get (by rw [shS_len]; exact hi)
  · rw [cl_sh hr, hM']
    have hl2 : (scS M' (shS n X0)).length = X0.length := by rw [scS_len, shS_len]
    have := putS_row (rho (List.range' n X0.length) (A ++ shS n X0 ++ B).length) X1 (scS M' (shS n X0)) A B (by rw [hl2]; exact hl)
    rw [hl2, hn] at this
    rw [scS_app, scS_app, hA, hB, this, clO_sh h1]
    exact hc
end
theorem sD_len {e : Eng} : (sD e).length = 14 := rfl
theorem cl_sD {e : Eng} (hd : e.disk.length = 5) (hm : e.mem.length = 5) : (sD e).all (clO 14) = true := by
  unfold sD
  rw [List.all_append, cl_s13 hd hm (by omega)]
  rfl
theorem sh0_sD {e : Eng} : shS 0 (sD e) = sD e := by
  have h1 : ∀ x : AV, x.cl1 14 = true → x.sh1 0 = x := by
    intro x hx
    have h0 : ∀ y : AV, y.cl0 14 = true → y.sh0 0 = y := fun y hy => by cases y <;> simp_all [AV.sh0, AV.cl0, AV.pur0]
    cases x with
    | agg xs =>
      simp only [AV.cl1, List.all_eq_true] at hx
      simp only [AV.sh1]
      congr 1
      conv => rhs; rw [← List.map_id xs]
      exact List.map_congr_left fun y hy => h0 y (hx y hy)
    | tup xs => simp [AV.cl1, AV.cl0, AV.pur0] at hx
    | clo g xs => simp [AV.cl1, AV.cl0, AV.pur0] at hx
    | any => simp [AV.cl1, AV.cl0, AV.pur0] at hx
    | _ => (simp only [AV.cl1] at hx; simp only [AV.sh1]; exact h0 _ hx)
  have h2 : ∀ S : Store, (∀ o ∈ S, ∀ ob, o = some ob → ∀ x ∈ ob.es, x.sh1 0 = x) → shS 0 S = S := by
    intro S h
    unfold shS
    conv => rhs; rw [← List.map_id S]
    refine List.map_congr_left fun o ho => ?_
    cases o with
    | none => rfl
    | some ob =>
      have h3 : ob.es.map (AV.sh1 0) = ob.es := by
        conv => rhs; rw [← List.map_id ob.es]
        exact List.map_congr_left fun x hx => h _ ho ob rfl x hx
      simp [h3]
  refine h2 _ fun o ho ob e1 x hx => ?_
  subst e1
  have hd : ∀ (b : Nat) (ps : List Pg), ∀ x ∈ (dps b ps).map dA, x.sh1 0 = x := by
    intro b ps
    induction ps generalizing b with
    | nil => intro x hx; simp [dps] at hx
    | cons p ps ih =>
      intro x hx
      rw [dps, List.map_cons, List.mem_cons] at hx
      rcases hx with rfl | hx
      · rfl
      · exact ih _ x hx
  have hi : ∀ l : List Int, ∀ x ∈ l.map I, x.sh1 0 = x := fun l x hx => by obtain ⟨n, _, rfl⟩ := List.mem_map.1 hx; rfl
  have hr : ∀ l : List Rc, ∀ x ∈ l.map rA, x.sh1 0 = x := fun l x hx => by obtain ⟨n, _, rfl⟩ := List.mem_map.1 hx; rfl
  simp only [sD, s13, List.cons_append, List.nil_append, List.mem_cons, List.not_mem_nil, or_false, Option.some.injEq] at ho
  rcases ho with rfl | rfl | rfl | rfl | rfl | rfl | rfl | rfl | rfl | rfl | rfl | rfl | rfl | rfl
  all_goals first
    | exact hd _ _ x hx
    | exact hi _ x hx
    | exact hr _ x hx
    | (rw [List.mem_singleton] at hx; subst hx; rfl)
/-- A call over an engine behind a pointer; the caller's other objects come behind it. -/
theorem enter_sD {P : Program} {f : FuncId} {args : List AV} {e e' : Eng} {B T : Store} {r : AV} {M : List Nat} {d : Tmp} {tm : List AV} {mv : List Nat} {Kont : St → Prop} (h : AFn1 P f args (sD e) r (sD e') M) (hT : T = sD e ++ B) (hd : e.disk.length = 5) (hm : e.mem.length = 5) (hd' : e'.disk.length = 5) (hm' : e'.mem.length = 5)
    (hr : r.cl 14 = true) (hr0 : r.sh 0 = r) (hac : args.all (AV.cl 14) = true) (ha0 : args.map (AV.sh 0) = args) (hM : ∀ j ∈ M, j < 14) (hB : scS M B = B) (hc : Kont ⟨(scT M tm).set d r, sD e' ++ B, M ++ mv⟩) : afterR P (.enter f args) (some d) ⟨tm, T, mv⟩ Kont := by
  refine enter_midM 0 (A := []) (X1 := sD e') (B := B) M h (by rw [sh0_sD, hT]; rfl) rfl rfl (cl_sD hd hm) (cl_sD hd' hm') hr ha0.symm hac hM (by simp) (by cases M <;> rfl) hB ?_
  rw [hr0, sh0_sD]
  exact hc
abbrev M13 : List Nat := [0, 1, 2, 3, 4, 5, 6, 7, 8, 9, 10, 11, 12]
theorem sh_s13 {n b : Nat} {e : Eng} : shS n (s13 b e) = s13 (n + b) e := by
  have hi : ∀ l : List Int, (l.map I).map (AV.sh1 n) = l.map I := fun l => by rw [List.map_map]; rfl
  have hr : ∀ l : List Rc, (l.map rA).map (AV.sh1 n) = l.map rA := fun l => by rw [List.map_map]; rfl
  simp only [s13, shS, List.map_cons, List.map_nil, Option.map_some, sh_dps, hi, hr, Nat.add_assoc]
theorem sh_sD {n : Nat} {e : Eng} : shS n (sD e) = s13 n e ++ [some ⟨5, [.agg [.own n 3 0 5, .own (6 + n) 3 0 5, .own (12 + n) 8 0 e.log.length, I e.safe, Bo e.down]]⟩] := by
  unfold sD
  rw [shS_app, sh_s13]
  simp [shS, AV.sh1, AV.sh0]
theorem sh_caps {n : Nat} : ∀ {caps : List AV}, caps.all AV.pur0 = true → caps.map (AV.sh n) = caps
  | [], _ => rfl
  | x :: xs, h => by
    rw [List.all_cons, Bool.and_eq_true] at h
    rw [List.map_cons, sh_caps h.2]
    cases x <;> simp [AV.pur0] at h <;> rfl
theorem cl_caps {m : Nat} : ∀ {caps : List AV}, caps.all AV.pur0 = true → caps.all (AV.cl m) = true
  | [], _ => rfl
  | x :: xs, h => by
    rw [List.all_cons, Bool.and_eq_true] at h
    rw [List.all_cons, cl_caps h.2, Bool.and_true]
    cases x <;> simp [AV.pur0] at h <;> rfl
theorem fin_dE5 {o1 o2 : Option AObj} {B : Store} {mv : List Nat} (e : Eng) {bb : Bool} (hd : e.disk.length = 5) (hm : e.mem.length = 5) :
    Fin 0 (.tup [.agg [.own 2 3 0 5, .own 8 3 0 5, .own 14 8 0 e.log.length, I e.safe, Bo e.down], Bo bb]) (o1 :: o2 :: (s13 2 e ++ B)) mv (fun r S' mv => (r = dR (e, bb) ∧ S' = dS 0 e) ∧ mv = []) := by
  have := fin_dE2 (o1 := o1) (o2 := o2) (X := s13 2 e) (B := B) (a := 2) (b := 8) (c := 14) (mv := mv) e (bb := bb) (dS_13 hd hm).symm rfl (by omega) (by omega)
  rw [hd, hm] at this
  exact this
theorem fin_dV (n n1 n2 : Nat) {A B S : Store} {mv : List Nat} (e : Eng) {bb : Bool} (hS : S = A ++ dS n e ++ B) (hA : A.length = n) (h1 : n + (1 + e.disk.length) = n1) (h2 : n + (2 + e.disk.length + e.mem.length) = n2) :
    Fin 0 (.tup [dV n n1 n2 e, Bo bb]) S mv (fun r S' mv => (r = dR (e, bb) ∧ S' = dS 0 e) ∧ mv = []) := by
  subst hS
  refine fin_row n (A := A) (X0 := dS 0 e) (B := B) (r0 := dR (e, bb)) (by rw [sh_dS, Nat.add_zero]) hA (by rw [dS_len]; exact cl_dS (by omega)) ?_ ?_ ⟨rfl, rfl⟩
  · have := sh_dE n 0 e
    simp only [AV.sh] at this ⊢
    rw [List.map_cons, this, Nat.add_zero, ← dV_eq h1 h2]
    rfl
  · simp only [AV.cl, List.all_cons, List.all_nil, Bool.and_true]
    rw [dS_len, cl_dE (by omega)]
    rfl
theorem fin_dVd (n n1 n2 : Nat) {S : Store} {mv : List Nat} (e : Eng) {bb : Bool} (hS : S.drop n = dS n e) (hl : n ≤ S.length) (h1 : n + (1 + e.disk.length) = n1) (h2 : n + (2 + e.disk.length + e.mem.length) = n2) :
    Fin 0 (.tup [dV n n1 n2 e, Bo bb]) S mv (fun r S' mv => (r = dR (e, bb) ∧ S' = dS 0 e) ∧ mv = []) :=
  fin_dV n n1 n2 (A := S.take n) (B := []) e (by rw [List.append_nil, ← hS, List.take_append_drop]) (by rw [List.length_take]; omega) h1 h2
theorem inv_mid {e : Eng} (h : Inv e) : e.mid := by
  have hv : ∀ {ps : List Pg}, Rgs ps → ∀ p ∈ ps, p.vals.length ≤ 2000000 := fun {ps} h p hm => by
    have h5 := h.len
    obtain ⟨k, hk, rfl⟩ := mem_at hm
    rw [h.sz.sz k (by omega)]
    omega
  exact ⟨by have := h.disk.len; omega, by have := h.mem.len; omega, by have := h.len; omega, hv h.disk, hv h.mem⟩
end
section
attribute [local go_sem] slt_r slt_I slt_p
end
section
attribute [local go_sem] slt_r slt_I slt_p
theorem see_dR (q : Eng × Bool) : Sees (dS 0 q.1) true (dR q) (.tup [eA q.1, Bo q.2]) := see_tup (.cons _ _ _ _ (see_dE (Has.self _)) (.cons _ _ _ _ (see_same rfl) .nil))
end
section
attribute [local go_sem] slt_r slt_I slt_p
end
end Go.Proofs.YtfcnajhanjhonaaGreat.Am
end
section
set_option linter.unusedVariables false
set_option linter.unusedSimpArgs false
set_option maxRecDepth 100000
set_option maxHeartbeats 8000000
namespace Go.Proofs.YtfcnajhanjhonaaGreat.Am
open Go Go.RowKit Go.Proofs
attribute [local go_sem_proc] Nat.reduceAdd Nat.reduceSub Nat.reduceMul Nat.reduceLT Nat.reduceLeDiff Nat.reduceEqDiff Int.reduceBEq Int.reduceBNe Int.reduceNeg Int.reduceSub Int.reduceLE Int.reduceLT
attribute [local go_sem_proc ↓] reduceIte
attribute [local congr] opsP_congr codeP_congr AWP_congr afterR_congr preP_congr afterPre_congr gPre_congr gOps_congr condP_congr stepE_congr
attribute [local go_sem] ty_int ty_bool ty_str ty_u8 ty_ints ty_bytes ty_page ty_pages ty_lpage ty_lpages ty_rec ty_recs ty_lrec ty_lrecs ty_eng ty_leng
attribute [local go_sem] true_and and_true beq_true' beq_false' toNat_cast Int.natCast_nonneg Bool.not_not Bool.not_true Bool.not_false decide_true decide_false Bool.or_false Bool.false_or Bool.or_true Bool.true_or Bool.and_false Bool.false_and Nat.zero_add Int.toNat_of_nonneg wrap_succ wrap_m1 wrap_nat succ_m1 cast0 succ_pos' succ_ne' succ_bne' ge_iff_le gt_iff_lt if_true if_false
section
attribute [local go_sem] slt_r slt_I slt_p
theorem cl_oI {m : Nat} {l : List Int} : ([some ⟨1, l.map I⟩] : Store).all (clO m) = true := by
  simp only [List.all_cons, List.all_nil, Bool.and_true]
  exact cl_I
theorem sh_oI {n : Nat} {l : List Int} : shS n [some ⟨1, l.map I⟩] = [some ⟨1, l.map I⟩] := by
  simp only [shS, List.map_cons, List.map_nil, Option.map_some, List.map_map]
  congr 3
end
section
attribute [local go_sem] slt_r slt_I slt_p
theorem yield_loadA {α : Type} [Inhabited α] {zs : List Value} {n : Nat} {sh : Sh} {z0 : Nat} {f : α → AV} {l : List α} {z k sub : Nat} {v : AV} : yieldR (loadM ⟨true, zs, n, sh⟩ z0 f l z k sub) v = ((z0 = z ∧ k < l.length ∧ sub + zs.length ≤ z) ∧ .agg (((f (at' l (k : Int))).cells.drop sub).take zs.length) = v) := by
  unfold loadM
  rw [loadO_agg]
  unfold yieldR
  simp only [List.length_map]
  refine propext ⟨fun ⟨h, k⟩ => ⟨h, by rw [getM h.2.1] at k; exact k⟩, fun ⟨h, k⟩ => ⟨h, by rw [getM h.2.1]; exact k⟩⟩
end
section
attribute [local go_sem] slt_r slt_I slt_p yield_loadA
attribute [local go_sem] List.append_assoc sD_len
end
end Go.Proofs.YtfcnajhanjhonaaGreat.Am
end
