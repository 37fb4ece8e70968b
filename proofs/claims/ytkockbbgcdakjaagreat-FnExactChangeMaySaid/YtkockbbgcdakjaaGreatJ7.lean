/- Lemmas and walks: Ld Le Fx Op Oq. No conditions. -/
import Derived.Test.YtkockbbgcdakjaaGreatSh
import Derived.Test.YtkockbbgcdakjaaGreatJ5
import Derived.Test.YtkockbbgcdakjaaGreatJ2
import Derived.Laws.Strings
import Derived.Test.YtkockbbgcdakjaaGreatJ6
import Derived.Test.YtkockbbgcdakjaaGreatJ4
import Derived.ProofKit
import Derived.SizedLaws
import Derived.Test.YtkockbbgcdakjaaGreatJ3
import Derived.Test.YtkockbbgcdakjaaGreatChecked
import Derived.Carry
section
/- Walks, part d2: sorted lists, each once. -/
set_option linter.unusedVariables false
set_option linter.unusedSimpArgs false
set_option maxRecDepth 100000
set_option maxHeartbeats 8000000
namespace Go.Proofs.YtkockbbgcdakjaaGreat.Am
open Go Go.RowKit Go.Proofs
attribute [local congr] opsP_congr codeP_congr AWP_congr afterR_congr preP_congr afterPre_congr gPre_congr gOps_congr condP_congr stepE_congr
attribute [local go_sem] ty_int ty_bool ty_str ty_u8 ty_ints ty_bytes ty_page ty_pages ty_lpage ty_lpages ty_rec ty_recs ty_lrec ty_lrecs ty_eng ty_leng
open Go.Sort Go.RowKit Go.Lib
/-- The one object of a call, its numbers written anew by the library. -/
theorem own_put {ok : Nat → Prop} {μ : Nat → Nat} {w : World} {l l' : List Int} (hl : l'.length = l.length) (hne : l ≠ []) (hrs : RelS ok w μ [some ⟨1, l.map I⟩]) (n : Nat) (os : Array Obj) (w' : World)
    (hw' : w' = grow (putRow (Value.int .i64) (Sort.ahead w n) (μ 0) 0 l'.toArray) os) :
    RelS ok w' μ [some ⟨1, l'.map I⟩] ∧ Mod w (liveB [some ⟨1, l.map I⟩] μ) w' ∧ (∀ b, b < w.heap.size → liveB [some ⟨1, l'.map I⟩] μ b → liveB [some ⟨1, l.map I⟩] μ b) := by
  subst hw'
  obtain ⟨cs, ty, hb, hs, hc⟩ := hrs.blk 0 ⟨1, l.map I⟩ rfl (by simpa using hne)
  have hg := grownBy_sortedI (w := w) (g := μ 0) (n := n) (os := os) l'.toArray
  have hh := heap_sortedI (n := n) (os := os) l'.toArray hb
  have hcs : l.length ≤ cs.size := by simpa using hs
  have hlive : liveB [some ⟨1, l.map I⟩] μ (μ 0) := ⟨0, ⟨1, l.map I⟩, rfl, by simpa using hne, rfl⟩
  refine ⟨⟨?_, ?_, ?_⟩, ?_, ?_⟩
  · intro i o hi hne'
    rcases i with _ | i
    · simp at hi
      subst hi
      refine ⟨_, ty, hh, by simp [putCells, hl]; omega, fun k x j y hk hj => ?_⟩
      simp only [List.getElem?_map, Option.map_eq_some_iff] at hk
      obtain ⟨m, hm, rfl⟩ := hk
      have hkl := (List.getElem?_eq_some_iff.1 hm).1
      rcases j with _ | j
      · simp [AV.cells] at hj
        subst hj
        refine ⟨.int .i64 m, ?_, .prim _ rfl⟩
        have hkc : k < cs.size := by omega
        simp [putCells, hkc, hkl]
        exact (List.getElem?_eq_some_iff.1 hm).2
      · simp [AV.cells] at hj
    · simp at hi
  · intro i o hi
    rcases i with _ | i
    · simp at hi
      subst hi
      refine ⟨by simp, fun x hx => ?_⟩
      obtain ⟨m, _, rfl⟩ := List.mem_map.1 hx
      simp [AV.cells, AV.scalar]
    · simp at hi
  · intro i j oi oj hi hj _ _ _
    have h1 := (List.getElem?_eq_some_iff.1 hi).1
    have h2 := (List.getElem?_eq_some_iff.1 hj).1
    simp at h1 h2
    omega
  · refine ⟨hg.os, hg.tape, hg.output, hg.size, fun b hbl hn => hg.block b hbl (fun e => hn (by cases e; exact hlive)), fun b cs' ty' fz hb' => ?_⟩
    by_cases e : b = μ 0
    · subst e
      rw [hb] at hb'
      cases hb'
      exact ⟨_, hh, by simp [putCells]⟩
    · exact ⟨cs', (hg.block b (Array.getElem?_eq_some_iff.1 hb').1 (fun e' => e (by cases e'; rfl))).trans hb', rfl⟩
  · rintro b _ ⟨i, o, hi, _, rfl⟩
    have h1 := (List.getElem?_eq_some_iff.1 hi).1
    simp at h1
    subst h1
    exact hlive
theorem holds_own {ok : Nat → Prop} {μ : Nat → Nat} {w : World} {l : List Int} (hne : l ≠ []) (hrs : RelS ok w μ [some ⟨1, l.map I⟩]) : Holds (Value.int .i64) w (μ 0) 0 l.toArray ∧ μ 0 < w.heap.size := by
  obtain ⟨cs, ty, hb, hs, hc⟩ := hrs.blk 0 ⟨1, l.map I⟩ rfl (by simpa using hne)
  refine ⟨fun j hj => ?_, (Array.getElem?_eq_some_iff.1 hb).1⟩
  have hj' : j < l.length := by simpa using hj
  obtain ⟨v, hv, hr⟩ := hc j (I l[j]) 0 (I l[j]) (by simp [List.getElem?_map, List.getElem?_eq_getElem hj']) rfl
  cases hr
  refine ⟨?_, ?_⟩
  · simp only [World.cell?, hb, Nat.zero_add]
    simpa [hj'] using hv
  · simp [World.frozen?, hb]
theorem own_val {ok : Nat → Prop} {μ : Nat → Nat} {w : World} {S : Store} {n : Nat} {v : Value} (h : Rep ok w μ S (.own 0 1 0 n) v) : (n = 0 ∧ ∃ A, v = .slice A 0 0) ∨ (0 < n ∧ ∃ c cs ty, v = .slice (some ⟨μ 0, 0, none⟩) n c ∧ n ≤ c ∧ w.heap[μ 0]? = some (.cells cs ty (0, 0)) ∧ c ≤ cs.size) := by
  cases h with
  | own0 _ _ _ A hi => exact .inl ⟨rfl, A, rfl⟩
  | own _ _ _ _ c cs ty hi h0 hc hb hsz => exact .inr ⟨h0, c, cs, ty, by simp, hc, hb, by simpa using hsz⟩
def sorted (l : List Int) : List Int := l.mergeSort fun x y => decide (x ≤ y)
theorem sorted_len (l : List Int) : (sorted l).length = l.length := List.length_mergeSort l
theorem sorted_nil : sorted [] = [] := by simp [sorted]
theorem Sort_own (l : List Int) (hb : l.length < 4611686018427387904) : AFn Tryz.prog 88 [.own 0 1 0 l.length] [some ⟨1, l.map I⟩] (fun r S' mv => (r = .tup [] ∧ S' = [some ⟨1, (sorted l).map I⟩]) ∧ mv = []) := by
  refine ⟨⟨_, Tryz.func88, by decide, rfl⟩, fun ok μ w vs hok hrs hl hr => ?_⟩
  obtain ⟨v, rfl⟩ : ∃ v, vs = #[v] := by
    rcases vs with ⟨vs⟩
    rcases vs with _ | ⟨v0, _ | ⟨v1, vs⟩⟩ <;> simp at hl
    exact ⟨v0, rfl⟩
  have r0 : Rep ok w μ [some ⟨1, l.map I⟩] (.own 0 1 0 l.length) v := hr 0 _ rfl
  rcases own_val r0 with ⟨h0, A, rfl⟩ | ⟨h0, c, cs, ty, rfl, hc, hbk, hcs⟩
  · obtain rfl := List.eq_nil_of_length_eq_zero h0
    refine (Tryz.slices_Sort_int_none A 0 w).mono ?_
    rintro e w' ⟨rfl, rfl⟩
    rw [sorted_nil]
    exact ⟨_, _, _, [], μ, rfl, ⟨⟨rfl, rfl⟩, rfl⟩, hrs, .tup [] [] rfl (fun j x v hj _ => by simp at hj), Mod.refl _ _, fun b _ h => h, Nat.le_refl _, fun i _ _ => rfl⟩
  · have hne : l ≠ [] := by intro e; subst e; simp at h0
    obtain ⟨hH, hlt⟩ := holds_own hne hrs
    refine (Tryz.slices_Sort_int (μ 0) 0 c l w hH hlt hb).mono ?_
    rintro e w' ⟨rfl, n, os, hw'⟩
    obtain ⟨p1, p2, p3⟩ := own_put (sorted_len l) hne hrs n os w' hw'
    exact ⟨_, _, _, [], μ, rfl, ⟨⟨rfl, rfl⟩, rfl⟩, p1, .tup [] [] rfl (fun j x v hj _ => by simp at hj), p2, p3, Nat.le_refl _, fun i _ _ => rfl⟩
/-- What a list leaves when neighbours that are the same are one; and zeros behind it. -/
def once (l : List Int) : List Int := Go.Lib.compact l
def onceZ (l : List Int) : List Int := once l ++ List.replicate (l.length - (once l).length) 0
theorem Compact_own (l : List Int) (hb : l.length < 4611686018427387904) (hlen : (once l).length ≤ l.length) (hpos : l ≠ [] → once l ≠ []) : AFn Tryz.prog 90 [.own 0 1 0 l.length] [some ⟨1, l.map I⟩]
    (fun r S' mv => (r = .own 0 1 0 (once l).length ∧ S' = [some ⟨1, (onceZ l).map I⟩]) ∧ mv = []) := by
  refine ⟨⟨_, Tryz.func90, by decide, rfl⟩, fun ok μ w vs hok hrs hl hr => ?_⟩
  obtain ⟨v, rfl⟩ : ∃ v, vs = #[v] := by
    rcases vs with ⟨vs⟩
    rcases vs with _ | ⟨v0, _ | ⟨v1, vs⟩⟩ <;> simp at hl
    exact ⟨v0, rfl⟩
  have r0 : Rep ok w μ [some ⟨1, l.map I⟩] (.own 0 1 0 l.length) v := hr 0 _ rfl
  rcases own_val r0 with ⟨h0, A, rfl⟩ | ⟨h0, c, cs, ty, rfl, hc, hbk, hcs⟩
  · obtain rfl := List.eq_nil_of_length_eq_zero h0
    refine (Tryz.slices_Compact_int_empty A 0 w).mono ?_
    rintro e w' ⟨rfl, rfl⟩
    exact ⟨_, _, _, [], μ, rfl, ⟨⟨rfl, rfl⟩, rfl⟩, hrs, .own0 _ _ _ _ (by simp), Mod.refl _ _, fun b _ h => h, Nat.le_refl _, fun i _ _ => rfl⟩
  · have hne : l ≠ [] := by intro e; subst e; simp at h0
    obtain ⟨hH, hlt⟩ := holds_own hne hrs
    refine (Tryz.slices_Compact_int (μ 0) 0 c l w hH (by omega) hc).mono ?_
    rintro e w' ⟨rfl, q, hw'⟩
    have hz : (onceZ l).length = l.length := by simp only [onceZ, List.length_append, List.length_replicate]; omega
    obtain ⟨p1, p2, p3⟩ := own_put hz hne hrs q #[] w' (by rw [grow_empty]; exact hw')
    obtain ⟨cs', hb', es⟩ := p2.shape _ _ _ _ hbk
    refine ⟨_, _, _, [], μ, rfl, ⟨⟨rfl, rfl⟩, rfl⟩, p1, ?_, p2, p3, Nat.le_refl _, fun i _ _ => rfl⟩
    have h1 : 0 < (once l).length := List.length_pos_iff.2 (hpos hne)
    have := Rep.own (ok := ok) (w := w') (μ := μ) (S := [some ⟨1, (onceZ l).map I⟩]) 0 1 0 (once l).length c cs' ty (by simp) h1 (by omega) hb' (by omega)
    simpa [once] using this
end Go.Proofs.YtkockbbgcdakjaaGreat.Am
end
section
/- Walks, part d3: the pages of a chain. -/
set_option linter.unusedVariables false
set_option linter.unusedSimpArgs false
set_option maxRecDepth 100000
set_option maxHeartbeats 8000000
namespace Go.Proofs.YtkockbbgcdakjaaGreat.Am
open Go Go.RowKit Go.Proofs
attribute [local congr] opsP_congr codeP_congr AWP_congr afterR_congr preP_congr afterPre_congr gPre_congr gOps_congr condP_congr stepE_congr
attribute [local go_sem] ty_int ty_bool ty_str ty_u8 ty_ints ty_bytes ty_page ty_pages ty_lpage ty_lpages ty_rec ty_recs ty_lrec ty_lrecs ty_eng ty_leng
open Go.Lib in
theorem mem_once (l : List Int) (x : Int) : x ∈ once l ↔ x ∈ l := by
  unfold once compact compactUpTo
  simp only [List.mem_map, List.mem_filter, List.mem_range]
  constructor
  · rintro ⟨j, ⟨hj, _⟩, rfl⟩
    simp [hj]
  · intro h
    obtain ⟨j, hj, rfl⟩ := List.mem_iff_getElem.1 h
    induction j using Nat.strongRecOn with
    | _ j ih =>
      by_cases hk : keeps l.toArray j = true
      · exact ⟨j, ⟨hj, hk⟩, by simp [hj]⟩
      · have hj0 : 0 < j := by
          rcases Nat.eq_zero_or_pos j with rfl | h0
          · exact absurd (keeps_lt_one l.toArray 0 (by omega)) hk
          · exact h0
        have e : l.toArray[j]! = l.toArray[j - 1]! := Classical.byContradiction fun hn => hk (keeps_pos hn)
        simp [hj, show j - 1 < l.length by omega] at e
        obtain ⟨q, h1, h2⟩ := ih (j - 1) (by omega) (by omega) (List.getElem_mem _)
        exact ⟨q, h1, by rw [h2, e]⟩
open Go.Lib in
theorem once_len (l : List Int) : (once l).length ≤ l.length := by
  unfold once compact compactUpTo
  rw [List.length_map]
  exact Nat.le_trans (List.length_filter_le _ _) (by simp)
theorem once_pos {l : List Int} (h : l ≠ []) : once l ≠ [] := by
  obtain ⟨x, hx⟩ := List.exists_mem_of_ne_nil l h
  intro e
  have := (mem_once l x).2 hx
  rw [e] at this
  cases this
/-- The pages of the records of a chain of which something holds. -/
def pgsRaw (l : List Rc) (pred : Rc → Bool) (c : List Nat) : List Int := (c.filter fun n : Nat => pred (at' l ((n : Int) - 1))).map fun n : Nat => (at' l ((n : Int) - 1)).page
def pgsOf (l : List Rc) (tx : Int) (pred : Rc → Bool) : List Int := once (sorted (pgsRaw l pred (chain l (lastN l tx))))
theorem pgsRaw_nil (l : List Rc) (pred : Rc → Bool) : pgsRaw l pred [] = [] := rfl
theorem pgsRaw_app (l : List Rc) (pred : Rc → Bool) (a b : List Nat) : pgsRaw l pred (a ++ b) = pgsRaw l pred a ++ pgsRaw l pred b := by simp [pgsRaw]
theorem chain_mem {l : List Rc} (hw : Wf l) {n : Nat} : ∀ m, m ≤ l.length → n ∈ chain l m → ∃ b, n = b + 1 ∧ b < l.length := by
  intro m
  induction m using Nat.strongRecOn with
  | _ m ih =>
    intro hm h
    rcases m with _ | b
    · rw [chain_zero] at h; cases h
    · obtain ⟨p, hp, hpv⟩ := hw.prev b (by omega)
      rw [chain_succ hpv hp] at h
      rcases List.mem_cons.1 h with rfl | h
      · exact ⟨b, rfl, by omega⟩
      · exact ih p (by omega) (by omega) h
@[local go_sem] theorem sc_clo0 {i g : Nat} : AV.sc [i] (.clo g []) = .clo g [] := rfl
def clipO (te : Option TI) (i z off len : Nat) (h m : AV) : OpR := match te, bndV h, bndV m with
  | some te, some h, some m => .val ((0 : Int) = 0 ∧ h = len ∧ m = len ∧ te.zs.length = z ∧ true = true) (.own i z off len)
  | _, _, _ => .stuck
@[local go_sem] theorem sliceO_clip {te : TI} {tm : List AV} {i z off len : Nat} {h m : Operand} : sliceO (some te) tm (.own i z off len) none (some h) (some m) = clipO (some te) i z off len (ev tm h) (ev tm m) := by
  simp only [sliceO, clipO, bnd_none, bnd_some, Option.isSome_some]
  split <;> simp_all
@[local go_sem] theorem clipO_some {te : TI} {i z off len : Nat} {k k' : IntKind} {h m : Int} : clipO (some te) i z off len (.prim (.int k h)) (.prim (.int k' m)) = .val ((0 : Int) = 0 ∧ h = len ∧ m = len ∧ te.zs.length = z ∧ true = true) (.own i z off len) := rfl
theorem Clip_own (n : Nat) (o : AObj) (hn : n < 4611686018427387904) : AFn Tryz.prog 89 [.own 0 1 0 n] [some o] (fun r S' mv => (r = .own 0 1 0 n ∧ S' = [some o]) ∧ mv = []) := by
  refine afn_of Tryz.func89 rfl rfl ?_
  simp -implicitDefEqProofs only [go_sem, true_and, and_true, beq_true', beq_false', Nat.reduceAdd, Nat.reduceSub, Nat.reduceMul, Nat.reduceLT, Nat.reduceLeDiff, Nat.reduceEqDiff, toNat_cast, Int.natCast_nonneg, Bool.not_not, Bool.not_true, Bool.not_false, decide_true, decide_false, Bool.or_false, Bool.false_or, Bool.or_true, Bool.true_or, Bool.and_false, Bool.false_and, Nat.zero_add, Int.toNat_of_nonneg, wrap_succ, wrap_m1, wrap_nat, succ_m1, cast0, succ_pos', succ_ne', succ_bne', Int.reduceBEq, Int.reduceBNe, Int.reduceNeg, Int.reduceSub, Int.reduceLE, Int.reduceLT, ge_iff_le, gt_iff_lt, ↓reduceIte, if_true, if_false, Tryz.f89]
  (repeat' (first | ((first | (with_reducible refine gOps_splitn (fun h => ?_) (fun h => ?_)) | (with_reducible refine gOps_split (fun h => ?_) (fun h => ?_)) | (with_reducible refine condP_splitn (fun h => ?_) (fun h => ?_)) | (with_reducible refine condP_split (fun h => ?_) (fun h => ?_)) | (with_reducible refine gPre_splitn (fun h => ?_) (fun h => ?_)) | (with_reducible refine gPre_split (fun h => ?_) (fun h => ?_))) <;> (try simp only [decide_eq_true_eq, decide_eq_false_iff_not, ge_iff_le, gt_iff_lt] at h) <;> try simp -implicitDefEqProofs only [go_sem, true_and, and_true, beq_true', beq_false', Nat.reduceAdd, Nat.reduceSub, Nat.reduceMul, Nat.reduceLT, Nat.reduceLeDiff, Nat.reduceEqDiff, toNat_cast, Int.natCast_nonneg, Bool.not_not, Bool.not_true, Bool.not_false, decide_true, decide_false, Bool.or_false, Bool.false_or, Bool.or_true, Bool.true_or, Bool.and_false, Bool.false_and, Nat.zero_add, Int.toNat_of_nonneg, wrap_succ, wrap_m1, wrap_nat, succ_m1, cast0, succ_pos', succ_ne', succ_bne', Int.reduceBEq, Int.reduceBNe, Int.reduceNeg, Int.reduceSub, Int.reduceLE, Int.reduceLT, ge_iff_le, gt_iff_lt, ↓reduceIte, if_true, if_false, *]) | ((with_reducible refine And.intro ?_ ?_); (· first | omega | (simp only [List.length_take]; omega)); try simp -implicitDefEqProofs only [go_sem, true_and, and_true, beq_true', beq_false', Nat.reduceAdd, Nat.reduceSub, Nat.reduceMul, Nat.reduceLT, Nat.reduceLeDiff, Nat.reduceEqDiff, toNat_cast, Int.natCast_nonneg, Bool.not_not, Bool.not_true, Bool.not_false, decide_true, decide_false, Bool.or_false, Bool.false_or, Bool.or_true, Bool.true_or, Bool.and_false, Bool.false_and, Nat.zero_add, Int.toNat_of_nonneg, wrap_succ, wrap_m1, wrap_nat, succ_m1, cast0, succ_pos', succ_ne', succ_bne', Int.reduceBEq, Int.reduceBNe, Int.reduceNeg, Int.reduceSub, Int.reduceLE, Int.reduceLT, ge_iff_le, gt_iff_lt, ↓reduceIte, if_true, if_false, *]) | fail))
  exact fin_same ⟨⟨rfl, rfl⟩, rfl⟩
theorem arg0_pre (l : List Int) (k : List Int) : Arg0 [some ⟨1, (l ++ k).map I⟩] true (.own 0 1 0 l.length) (ints l) := by
  refine .own 0 1 0 l.length ⟨1, (l ++ k).map I⟩ (l.map iD) rfl rfl rfl (by simp) ?_
  simp only [List.drop_zero, List.map_append]
  rw [show (l.map I ++ k.map I).take l.length = l.map I by rw [List.take_left' (by simp)]]
  exact isDs_I l
theorem pgsRaw_len (l : List Rc) (pred : Rc → Bool) (c : List Nat) : (pgsRaw l pred c).length ≤ c.length := by
  unfold pgsRaw
  rw [List.length_map]
  exact List.length_filter_le _ _
theorem mem_sorted (l : List Int) (x : Int) : x ∈ sorted l ↔ x ∈ l := List.mem_mergeSort
theorem mem_pgsOf (l : List Rc) (tx : Int) (pred : Rc → Bool) (x : Int) : x ∈ pgsOf l tx pred ↔ ∃ n ∈ chain l (lastN l tx), pred (at' l ((n : Int) - 1)) = true ∧ (at' l ((n : Int) - 1)).page = x := by
  unfold pgsOf
  rw [mem_once, mem_sorted, pgsRaw, List.mem_map]
  constructor
  · rintro ⟨n, hn, rfl⟩
    obtain ⟨h1, h2⟩ := List.mem_filter.1 hn
    exact ⟨n, h1, h2, rfl⟩
  · rintro ⟨n, h1, h2, rfl⟩
    exact ⟨n, List.mem_filter.2 ⟨h1, h2⟩, rfl⟩
theorem pgsOf_len (l : List Rc) (tx : Int) (pred : Rc → Bool) (hw : Wf l) : (pgsOf l tx pred).length ≤ 150 := by
  have h1 := once_len (sorted (pgsRaw l pred (chain l (lastN l tx))))
  rw [sorted_len] at h1
  have h2 := pgsRaw_len l pred (chain l (lastN l tx))
  have h3 := chain_len l (lastN l tx)
  have h4 := lastN_le l tx
  have h5 := hw.len
  unfold pgsOf
  omega
theorem pagesOf_fn (hl : LastC) (l : List Rc) (tx : Int) (h : FuncId) (pred : Rc → Bool) (hw : Wf l) (hh : ∀ r, Fn1 Tryz.prog h [rA r] (Bo (pred r))) : Fn1 Tryz.prog 70 [recs l, I tx, .clo h []] (ints (pgsOf l tx pred)) := by
  have hlen := hw.len
  have hcl := chain_len l (lastN l tx)
  have hll := lastN_le l tx
  have hch := chain_fn hl l tx hw
  obtain ⟨c, hc⟩ : ∃ c, chain l (lastN l tx) = c := ⟨_, rfl⟩
  rw [hc] at hcl hch
  have hcm : ∀ n ∈ c, ∃ b, n = b + 1 ∧ b < l.length := fun n hn => chain_mem hw _ hll (by rw [hc]; exact hn)
  have hout : pgsOf l tx pred = once (sorted (pgsRaw l pred c)) := by rw [pgsOf, hc]
  have hcb : c.length < 4611686018427387904 := by omega
  rw [hout]
  clear hout hc
  refine fn1_of Tryz.func70 rfl rfl ?_
  simp -implicitDefEqProofs only [go_sem, true_and, and_true, beq_true', beq_false', Nat.reduceAdd, Nat.reduceSub, Nat.reduceMul, Nat.reduceLT, Nat.reduceLeDiff, Nat.reduceEqDiff, toNat_cast, Int.natCast_nonneg, Bool.not_not, Bool.not_true, Bool.not_false, decide_true, decide_false, Bool.or_false, Bool.false_or, Bool.or_true, Bool.true_or, Bool.and_false, Bool.false_and, Nat.zero_add, Int.toNat_of_nonneg, wrap_succ, wrap_m1, wrap_nat, succ_m1, cast0, succ_pos', succ_ne', succ_bne', Int.reduceBEq, Int.reduceBNe, Int.reduceNeg, Int.reduceSub, Int.reduceLE, Int.reduceLT, ge_iff_le, gt_iff_lt, ↓reduceIte, if_true, if_false, Tryz.f70]
  (repeat' (first | ((first | (with_reducible refine gOps_splitn (fun h => ?_) (fun h => ?_)) | (with_reducible refine gOps_split (fun h => ?_) (fun h => ?_)) | (with_reducible refine condP_splitn (fun h => ?_) (fun h => ?_)) | (with_reducible refine condP_split (fun h => ?_) (fun h => ?_)) | (with_reducible refine gPre_splitn (fun h => ?_) (fun h => ?_)) | (with_reducible refine gPre_split (fun h => ?_) (fun h => ?_))) <;> (try simp only [decide_eq_true_eq, decide_eq_false_iff_not, ge_iff_le, gt_iff_lt] at h) <;> try simp -implicitDefEqProofs only [go_sem, true_and, and_true, beq_true', beq_false', Nat.reduceAdd, Nat.reduceSub, Nat.reduceMul, Nat.reduceLT, Nat.reduceLeDiff, Nat.reduceEqDiff, toNat_cast, Int.natCast_nonneg, Bool.not_not, Bool.not_true, Bool.not_false, decide_true, decide_false, Bool.or_false, Bool.false_or, Bool.or_true, Bool.true_or, Bool.and_false, Bool.false_and, Nat.zero_add, Int.toNat_of_nonneg, wrap_succ, wrap_m1, wrap_nat, succ_m1, cast0, succ_pos', succ_ne', succ_bne', Int.reduceBEq, Int.reduceBNe, Int.reduceNeg, Int.reduceSub, Int.reduceLE, Int.reduceLT, ge_iff_le, gt_iff_lt, ↓reduceIte, if_true, if_false, *]) | ((with_reducible refine And.intro ?_ ?_); (· first | omega | (simp only [List.length_take]; omega)); try simp -implicitDefEqProofs only [go_sem, true_and, and_true, beq_true', beq_false', Nat.reduceAdd, Nat.reduceSub, Nat.reduceMul, Nat.reduceLT, Nat.reduceLeDiff, Nat.reduceEqDiff, toNat_cast, Int.natCast_nonneg, Bool.not_not, Bool.not_true, Bool.not_false, decide_true, decide_false, Bool.or_false, Bool.false_or, Bool.or_true, Bool.true_or, Bool.and_false, Bool.false_and, Nat.zero_add, Int.toNat_of_nonneg, wrap_succ, wrap_m1, wrap_nat, succ_m1, cast0, succ_pos', succ_ne', succ_bne', Int.reduceBEq, Int.reduceBNe, Int.reduceNeg, Int.reduceSub, Int.reduceLE, Int.reduceLT, ge_iff_le, gt_iff_lt, ↓reduceIte, if_true, if_false, *]) | ((with_reducible refine enter_pu (hch) ?_ ?_ ?_); (· rfl); (· rfl); try simp -implicitDefEqProofs only [go_sem, true_and, and_true, beq_true', beq_false', Nat.reduceAdd, Nat.reduceSub, Nat.reduceMul, Nat.reduceLT, Nat.reduceLeDiff, Nat.reduceEqDiff, toNat_cast, Int.natCast_nonneg, Bool.not_not, Bool.not_true, Bool.not_false, decide_true, decide_false, Bool.or_false, Bool.false_or, Bool.or_true, Bool.true_or, Bool.and_false, Bool.false_and, Nat.zero_add, Int.toNat_of_nonneg, wrap_succ, wrap_m1, wrap_nat, succ_m1, cast0, succ_pos', succ_ne', succ_bne', Int.reduceBEq, Int.reduceBNe, Int.reduceNeg, Int.reduceSub, Int.reduceLE, Int.reduceLT, ge_iff_le, gt_iff_lt, ↓reduceIte, if_true, if_false, *])))
  refine cp_loop (fun i : Nat => ⟨(recs l :: I tx :: .clo h [] :: .any :: .any :: .any :: nilS :: .own 0 1 0 (pgsRaw l pred (c.take i)).length :: .any :: .any :: .any :: .any :: .any :: ints (c.map fun n : Nat => (n : Int)) :: I (c.length : Int) :: I (i : Int) :: .any :: .any :: .any :: .any :: .any :: .any :: .any :: .any :: .any :: .any :: .any :: .any :: .any :: .any :: .any :: .any :: .any :: .any :: .any :: .any :: .any :: .any :: []), [some ⟨1, (pgsRaw l pred (c.take i)).map I⟩], [0]⟩) (fun i => i ≤ c.length) (fun i => c.length - i) 0 ?_ ?_ ?_
  · simp
  · simp only [List.take_zero, pgsRaw_nil]
    refine WkN.trans (wk_nil 7 1 (by omega) rfl) (WkN.trans (wk_tm ?_) (wk_mv (by simp))); simp only [List.set_cons_succ, List.set_cons_zero, List.length_nil, List.length_cons]; repeat (first | exact WL.nil | (with_reducible refine WL.any _ _ _ ?_) | (with_reducible refine WL.same _ _ _ ?_) | (refine WL.eq _ _ _ _ rfl ?_))
  · rintro i hi
    have hb : i < 4611686018427387904 := by omega
    by_cases hil : i < c.length
    · have hil' : (i : Int) < (c.length : Int) := by omega
      obtain ⟨b, hn, hbl⟩ := hcm (at' c (i : Int)) (at_mem c i hil)
      have hat : at' (c.map fun n : Nat => (n : Int)) (i : Int) = ((b + 1 : Nat) : Int) := by rw [at_mapN c i hil, hn]
      have hb3 : b < 4611686018427387904 := by omega
      have htk := take_at c i hil
      have hrl := pgsRaw_len l pred (c.take i)
      rw [List.length_take] at hrl
      have hhr := hh (at' l (b : Int))
      rcases hp : pred (at' l (b : Int)) with _ | _
      · have e : pgsRaw l pred (c.take (i + 1)) = pgsRaw l pred (c.take i) := by
          rw [← htk, pgsRaw_app, hn]
          simp [pgsRaw, hp]
        rw [hp] at hhr
        clear hn htk
        simp -implicitDefEqProofs only [go_sem, true_and, and_true, beq_true', beq_false', Nat.reduceAdd, Nat.reduceSub, Nat.reduceMul, Nat.reduceLT, Nat.reduceLeDiff, Nat.reduceEqDiff, toNat_cast, Int.natCast_nonneg, Bool.not_not, Bool.not_true, Bool.not_false, decide_true, decide_false, Bool.or_false, Bool.false_or, Bool.or_true, Bool.true_or, Bool.and_false, Bool.false_and, Nat.zero_add, Int.toNat_of_nonneg, wrap_succ, wrap_m1, wrap_nat, succ_m1, cast0, succ_pos', succ_ne', succ_bne', Int.reduceBEq, Int.reduceBNe, Int.reduceNeg, Int.reduceSub, Int.reduceLE, Int.reduceLT, ge_iff_le, gt_iff_lt, ↓reduceIte, if_true, if_false, hil', hb, hat, hb3]
        (repeat' (first | ((first | (with_reducible refine gOps_splitn (fun h => ?_) (fun h => ?_)) | (with_reducible refine gOps_split (fun h => ?_) (fun h => ?_)) | (with_reducible refine condP_splitn (fun h => ?_) (fun h => ?_)) | (with_reducible refine condP_split (fun h => ?_) (fun h => ?_)) | (with_reducible refine gPre_splitn (fun h => ?_) (fun h => ?_)) | (with_reducible refine gPre_split (fun h => ?_) (fun h => ?_))) <;> (try simp only [decide_eq_true_eq, decide_eq_false_iff_not, ge_iff_le, gt_iff_lt] at h) <;> try simp -implicitDefEqProofs only [go_sem, true_and, and_true, beq_true', beq_false', Nat.reduceAdd, Nat.reduceSub, Nat.reduceMul, Nat.reduceLT, Nat.reduceLeDiff, Nat.reduceEqDiff, toNat_cast, Int.natCast_nonneg, Bool.not_not, Bool.not_true, Bool.not_false, decide_true, decide_false, Bool.or_false, Bool.false_or, Bool.or_true, Bool.true_or, Bool.and_false, Bool.false_and, Nat.zero_add, Int.toNat_of_nonneg, wrap_succ, wrap_m1, wrap_nat, succ_m1, cast0, succ_pos', succ_ne', succ_bne', Int.reduceBEq, Int.reduceBNe, Int.reduceNeg, Int.reduceSub, Int.reduceLE, Int.reduceLT, ge_iff_le, gt_iff_lt, ↓reduceIte, if_true, if_false, *]) | ((with_reducible refine And.intro ?_ ?_); (· first | omega | (simp only [List.length_take]; omega)); try simp -implicitDefEqProofs only [go_sem, true_and, and_true, beq_true', beq_false', Nat.reduceAdd, Nat.reduceSub, Nat.reduceMul, Nat.reduceLT, Nat.reduceLeDiff, Nat.reduceEqDiff, toNat_cast, Int.natCast_nonneg, Bool.not_not, Bool.not_true, Bool.not_false, decide_true, decide_false, Bool.or_false, Bool.false_or, Bool.or_true, Bool.true_or, Bool.and_false, Bool.false_and, Nat.zero_add, Int.toNat_of_nonneg, wrap_succ, wrap_m1, wrap_nat, succ_m1, cast0, succ_pos', succ_ne', succ_bne', Int.reduceBEq, Int.reduceBNe, Int.reduceNeg, Int.reduceSub, Int.reduceLE, Int.reduceLT, ge_iff_le, gt_iff_lt, ↓reduceIte, if_true, if_false, *]) | ((with_reducible refine enter_pu (hhr) ?_ ?_ ?_); (· rfl); (· rfl); try simp -implicitDefEqProofs only [go_sem, true_and, and_true, beq_true', beq_false', Nat.reduceAdd, Nat.reduceSub, Nat.reduceMul, Nat.reduceLT, Nat.reduceLeDiff, Nat.reduceEqDiff, toNat_cast, Int.natCast_nonneg, Bool.not_not, Bool.not_true, Bool.not_false, decide_true, decide_false, Bool.or_false, Bool.false_or, Bool.or_true, Bool.true_or, Bool.and_false, Bool.false_and, Nat.zero_add, Int.toNat_of_nonneg, wrap_succ, wrap_m1, wrap_nat, succ_m1, cast0, succ_pos', succ_ne', succ_bne', Int.reduceBEq, Int.reduceBNe, Int.reduceNeg, Int.reduceSub, Int.reduceLE, Int.reduceLT, ge_iff_le, gt_iff_lt, ↓reduceIte, if_true, if_false, *])))
        refine ⟨i + 1, by omega, by omega, ?_⟩
        rw [e]
        refine WkN.trans (wk_tm ?_) (wk_trunc (S := [some ⟨1, _⟩]) (Nat.le_refl _) rfl (by first | rfl | (simp only [sltB, List.all_cons, List.all_nil, slt_p, slt_I, slt_r, Bool.and_true]; done) | (simp only [sltB, List.all_cons, List.all_nil, slt_p, slt_I, slt_r, Bool.and_true]; rfl))); repeat (first | exact WL.nil | (with_reducible refine WL.any _ _ _ ?_) | (with_reducible refine WL.same _ _ _ ?_) | (refine WL.eq _ _ _ _ rfl ?_))
      · have e : pgsRaw l pred (c.take (i + 1)) = pgsRaw l pred (c.take i) ++ [(at' l (b : Int)).page] := by
          rw [← htk, pgsRaw_app, hn]
          simp [pgsRaw, hp]
        rw [hp] at hhr
        clear hn htk
        simp -implicitDefEqProofs only [go_sem, true_and, and_true, beq_true', beq_false', Nat.reduceAdd, Nat.reduceSub, Nat.reduceMul, Nat.reduceLT, Nat.reduceLeDiff, Nat.reduceEqDiff, toNat_cast, Int.natCast_nonneg, Bool.not_not, Bool.not_true, Bool.not_false, decide_true, decide_false, Bool.or_false, Bool.false_or, Bool.or_true, Bool.true_or, Bool.and_false, Bool.false_and, Nat.zero_add, Int.toNat_of_nonneg, wrap_succ, wrap_m1, wrap_nat, succ_m1, cast0, succ_pos', succ_ne', succ_bne', Int.reduceBEq, Int.reduceBNe, Int.reduceNeg, Int.reduceSub, Int.reduceLE, Int.reduceLT, ge_iff_le, gt_iff_lt, ↓reduceIte, if_true, if_false, hil', hb, hat, hb3]
        (repeat' (first | ((first | (with_reducible refine gOps_splitn (fun h => ?_) (fun h => ?_)) | (with_reducible refine gOps_split (fun h => ?_) (fun h => ?_)) | (with_reducible refine condP_splitn (fun h => ?_) (fun h => ?_)) | (with_reducible refine condP_split (fun h => ?_) (fun h => ?_)) | (with_reducible refine gPre_splitn (fun h => ?_) (fun h => ?_)) | (with_reducible refine gPre_split (fun h => ?_) (fun h => ?_))) <;> (try simp only [decide_eq_true_eq, decide_eq_false_iff_not, ge_iff_le, gt_iff_lt] at h) <;> try simp -implicitDefEqProofs only [go_sem, true_and, and_true, beq_true', beq_false', Nat.reduceAdd, Nat.reduceSub, Nat.reduceMul, Nat.reduceLT, Nat.reduceLeDiff, Nat.reduceEqDiff, toNat_cast, Int.natCast_nonneg, Bool.not_not, Bool.not_true, Bool.not_false, decide_true, decide_false, Bool.or_false, Bool.false_or, Bool.or_true, Bool.true_or, Bool.and_false, Bool.false_and, Nat.zero_add, Int.toNat_of_nonneg, wrap_succ, wrap_m1, wrap_nat, succ_m1, cast0, succ_pos', succ_ne', succ_bne', Int.reduceBEq, Int.reduceBNe, Int.reduceNeg, Int.reduceSub, Int.reduceLE, Int.reduceLT, ge_iff_le, gt_iff_lt, ↓reduceIte, if_true, if_false, *]) | ((with_reducible refine And.intro ?_ ?_); (· first | omega | (simp only [List.length_take]; omega)); try simp -implicitDefEqProofs only [go_sem, true_and, and_true, beq_true', beq_false', Nat.reduceAdd, Nat.reduceSub, Nat.reduceMul, Nat.reduceLT, Nat.reduceLeDiff, Nat.reduceEqDiff, toNat_cast, Int.natCast_nonneg, Bool.not_not, Bool.not_true, Bool.not_false, decide_true, decide_false, Bool.or_false, Bool.false_or, Bool.or_true, Bool.true_or, Bool.and_false, Bool.false_and, Nat.zero_add, Int.toNat_of_nonneg, wrap_succ, wrap_m1, wrap_nat, succ_m1, cast0, succ_pos', succ_ne', succ_bne', Int.reduceBEq, Int.reduceBNe, Int.reduceNeg, Int.reduceSub, Int.reduceLE, Int.reduceLT, ge_iff_le, gt_iff_lt, ↓reduceIte, if_true, if_false, *]) | ((with_reducible refine enter_pu (hhr) ?_ ?_ ?_); (· rfl); (· rfl); try simp -implicitDefEqProofs only [go_sem, true_and, and_true, beq_true', beq_false', Nat.reduceAdd, Nat.reduceSub, Nat.reduceMul, Nat.reduceLT, Nat.reduceLeDiff, Nat.reduceEqDiff, toNat_cast, Int.natCast_nonneg, Bool.not_not, Bool.not_true, Bool.not_false, decide_true, decide_false, Bool.or_false, Bool.false_or, Bool.or_true, Bool.true_or, Bool.and_false, Bool.false_and, Nat.zero_add, Int.toNat_of_nonneg, wrap_succ, wrap_m1, wrap_nat, succ_m1, cast0, succ_pos', succ_ne', succ_bne', Int.reduceBEq, Int.reduceBNe, Int.reduceNeg, Int.reduceSub, Int.reduceLE, Int.reduceLT, ge_iff_le, gt_iff_lt, ↓reduceIte, if_true, if_false, *])))
        refine ⟨i + 1, by omega, by omega, ?_⟩
        rw [e]
        simp only [List.length_append, List.length_cons, List.length_nil]
        refine WkN.trans (WkN.trans (wk_tm ?_) (wk_trunc (S := [some ⟨1, _⟩]) (Nat.le_refl _) rfl (by first | rfl | (simp only [sltB, List.all_cons, List.all_nil, slt_p, slt_I, slt_r, Bool.and_true]; done) | (simp only [sltB, List.all_cons, List.all_nil, slt_p, slt_I, slt_r, Bool.and_true]; rfl)))) (wk_mv (by simp)); repeat (first | exact WL.nil | (with_reducible refine WL.any _ _ _ ?_) | (with_reducible refine WL.same _ _ _ ?_) | (refine WL.eq _ _ _ _ rfl ?_))
    · have hil' : ¬ (i : Int) < (c.length : Int) := by omega
      obtain rfl : i = c.length := by omega
      rw [List.take_length]
      have hrl := pgsRaw_len l pred c
      have hso := Sort_own (pgsRaw l pred c) (by omega)
      have hco := Compact_own (sorted (pgsRaw l pred c)) (by rw [sorted_len]; omega) (once_len _) once_pos
      rw [sorted_len] at hco
      simp -implicitDefEqProofs only [go_sem, true_and, and_true, beq_true', beq_false', Nat.reduceAdd, Nat.reduceSub, Nat.reduceMul, Nat.reduceLT, Nat.reduceLeDiff, Nat.reduceEqDiff, toNat_cast, Int.natCast_nonneg, Bool.not_not, Bool.not_true, Bool.not_false, decide_true, decide_false, Bool.or_false, Bool.false_or, Bool.or_true, Bool.true_or, Bool.and_false, Bool.false_and, Nat.zero_add, Int.toNat_of_nonneg, wrap_succ, wrap_m1, wrap_nat, succ_m1, cast0, succ_pos', succ_ne', succ_bne', Int.reduceBEq, Int.reduceBNe, Int.reduceNeg, Int.reduceSub, Int.reduceLE, Int.reduceLT, ge_iff_le, gt_iff_lt, ↓reduceIte, if_true, if_false, hil']
      (repeat' (first | ((first | (with_reducible refine gOps_splitn (fun h => ?_) (fun h => ?_)) | (with_reducible refine gOps_split (fun h => ?_) (fun h => ?_)) | (with_reducible refine condP_splitn (fun h => ?_) (fun h => ?_)) | (with_reducible refine condP_split (fun h => ?_) (fun h => ?_)) | (with_reducible refine gPre_splitn (fun h => ?_) (fun h => ?_)) | (with_reducible refine gPre_split (fun h => ?_) (fun h => ?_))) <;> (try simp only [decide_eq_true_eq, decide_eq_false_iff_not, ge_iff_le, gt_iff_lt] at h) <;> try simp -implicitDefEqProofs only [go_sem, true_and, and_true, beq_true', beq_false', Nat.reduceAdd, Nat.reduceSub, Nat.reduceMul, Nat.reduceLT, Nat.reduceLeDiff, Nat.reduceEqDiff, toNat_cast, Int.natCast_nonneg, Bool.not_not, Bool.not_true, Bool.not_false, decide_true, decide_false, Bool.or_false, Bool.false_or, Bool.or_true, Bool.true_or, Bool.and_false, Bool.false_and, Nat.zero_add, Int.toNat_of_nonneg, wrap_succ, wrap_m1, wrap_nat, succ_m1, cast0, succ_pos', succ_ne', succ_bne', Int.reduceBEq, Int.reduceBNe, Int.reduceNeg, Int.reduceSub, Int.reduceLE, Int.reduceLT, ge_iff_le, gt_iff_lt, ↓reduceIte, if_true, if_false, *]) | ((with_reducible refine And.intro ?_ ?_); (· first | omega | (simp only [List.length_take]; omega)); try simp -implicitDefEqProofs only [go_sem, true_and, and_true, beq_true', beq_false', Nat.reduceAdd, Nat.reduceSub, Nat.reduceMul, Nat.reduceLT, Nat.reduceLeDiff, Nat.reduceEqDiff, toNat_cast, Int.natCast_nonneg, Bool.not_not, Bool.not_true, Bool.not_false, decide_true, decide_false, Bool.or_false, Bool.false_or, Bool.or_true, Bool.true_or, Bool.and_false, Bool.false_and, Nat.zero_add, Int.toNat_of_nonneg, wrap_succ, wrap_m1, wrap_nat, succ_m1, cast0, succ_pos', succ_ne', succ_bne', Int.reduceBEq, Int.reduceBNe, Int.reduceNeg, Int.reduceSub, Int.reduceLE, Int.reduceLT, ge_iff_le, gt_iff_lt, ↓reduceIte, if_true, if_false, *]) | fail))
      refine enter_keep hso ?_
      rintro r S' ⟨rfl, rfl⟩
      simp -implicitDefEqProofs only [go_sem, true_and, and_true, beq_true', beq_false', Nat.reduceAdd, Nat.reduceSub, Nat.reduceMul, Nat.reduceLT, Nat.reduceLeDiff, Nat.reduceEqDiff, toNat_cast, Int.natCast_nonneg, Bool.not_not, Bool.not_true, Bool.not_false, decide_true, decide_false, Bool.or_false, Bool.false_or, Bool.or_true, Bool.true_or, Bool.and_false, Bool.false_and, Nat.zero_add, Int.toNat_of_nonneg, wrap_succ, wrap_m1, wrap_nat, succ_m1, cast0, succ_pos', succ_ne', succ_bne', Int.reduceBEq, Int.reduceBNe, Int.reduceNeg, Int.reduceSub, Int.reduceLE, Int.reduceLT, ge_iff_le, gt_iff_lt, ↓reduceIte, if_true, if_false, true_and]
      refine enter_keep hco ?_
      rintro r S' ⟨rfl, rfl⟩
      simp -implicitDefEqProofs only [go_sem, true_and, and_true, beq_true', beq_false', Nat.reduceAdd, Nat.reduceSub, Nat.reduceMul, Nat.reduceLT, Nat.reduceLeDiff, Nat.reduceEqDiff, toNat_cast, Int.natCast_nonneg, Bool.not_not, Bool.not_true, Bool.not_false, decide_true, decide_false, Bool.or_false, Bool.false_or, Bool.or_true, Bool.true_or, Bool.and_false, Bool.false_and, Nat.zero_add, Int.toNat_of_nonneg, wrap_succ, wrap_m1, wrap_nat, succ_m1, cast0, succ_pos', succ_ne', succ_bne', Int.reduceBEq, Int.reduceBNe, Int.reduceNeg, Int.reduceSub, Int.reduceLE, Int.reduceLT, ge_iff_le, gt_iff_lt, ↓reduceIte, if_true, if_false, true_and]
      refine enter_keep (Clip_own _ _ ?_) ?_
      · have := once_len (sorted (pgsRaw l pred c))
        rw [sorted_len] at this
        omega
      rintro r S' ⟨rfl, rfl⟩
      simp -implicitDefEqProofs only [go_sem, true_and, and_true, beq_true', beq_false', Nat.reduceAdd, Nat.reduceSub, Nat.reduceMul, Nat.reduceLT, Nat.reduceLeDiff, Nat.reduceEqDiff, toNat_cast, Int.natCast_nonneg, Bool.not_not, Bool.not_true, Bool.not_false, decide_true, decide_false, Bool.or_false, Bool.false_or, Bool.or_true, Bool.true_or, Bool.and_false, Bool.false_and, Nat.zero_add, Int.toNat_of_nonneg, wrap_succ, wrap_m1, wrap_nat, succ_m1, cast0, succ_pos', succ_ne', succ_bne', Int.reduceBEq, Int.reduceBNe, Int.reduceNeg, Int.reduceSub, Int.reduceLE, Int.reduceLT, ge_iff_le, gt_iff_lt, ↓reduceIte, if_true, if_false, true_and]
      exact fin_1 (argT0 (arg0_pre _ _))
def pagesC (hl : LastC) : PagesC := ⟨pgsOf, mem_pgsOf, pgsOf_len, fun l tx h pred hw hh => pagesOf_fn hl l tx h pred hw hh⟩
end Go.Proofs.YtkockbbgcdakjaaGreat.Am
end
section
/- Walks, part x: the law of who may change a page. -/
set_option linter.unusedVariables false
set_option linter.unusedSimpArgs false
set_option maxRecDepth 100000
set_option maxHeartbeats 8000000
namespace Go.Proofs.YtkockbbgcdakjaaGreat.Am
open Go Go.RowKit Go.Proofs
attribute [local congr] opsP_congr codeP_congr AWP_congr afterR_congr preP_congr afterPre_congr gPre_congr gOps_congr condP_congr stepE_congr
attribute [local go_sem] ty_int ty_bool ty_str ty_u8 ty_ints ty_bytes ty_page ty_pages ty_lpage ty_lpages ty_rec ty_recs ty_lrec ty_lrecs ty_eng ty_leng
theorem lastC : LastC := fun l tx h => last_c l tx h
theorem lastOfC : LastOfC := fun l page h => lastOf_c l page h
theorem recC : RecC := RecOkI_fn
theorem ChangeMayS_fn (e : Eng) (tx page : Int) (hd : e.disk.length < 4611686018427387904) (hm : e.mem.length < 4611686018427387904) (hl : e.log.length < 4611686018427387904) : Fn1 Tryz.prog 5 [eA e, I tx, I page] (Bo (mayE e tx page)) := by
  have c1 := EngineOkS_fn e hd hm hl
  refine fn1_of Tryz.func5 rfl rfl ?_
  rcases hok : okE e with _ | _
  · rw [hok] at c1
    simp -implicitDefEqProofs only [go_sem, true_and, and_true, beq_true', beq_false', Nat.reduceAdd, Nat.reduceSub, Nat.reduceMul, Nat.reduceLT, Nat.reduceLeDiff, Nat.reduceEqDiff, toNat_cast, Int.natCast_nonneg, Bool.not_not, Bool.not_true, Bool.not_false, decide_true, decide_false, Bool.or_false, Bool.false_or, Bool.or_true, Bool.true_or, Bool.and_false, Bool.false_and, Nat.zero_add, Int.toNat_of_nonneg, wrap_succ, wrap_m1, wrap_nat, succ_m1, cast0, succ_pos', succ_ne', succ_bne', Int.reduceBEq, Int.reduceBNe, Int.reduceNeg, Int.reduceSub, Int.reduceLE, Int.reduceLT, ge_iff_le, gt_iff_lt, ↓reduceIte, if_true, if_false, Tryz.f5]
    (repeat' (first | ((first | (with_reducible refine gOps_splitn (fun h => ?_) (fun h => ?_)) | (with_reducible refine gOps_split (fun h => ?_) (fun h => ?_)) | (with_reducible refine condP_splitn (fun h => ?_) (fun h => ?_)) | (with_reducible refine condP_split (fun h => ?_) (fun h => ?_)) | (with_reducible refine gPre_splitn (fun h => ?_) (fun h => ?_)) | (with_reducible refine gPre_split (fun h => ?_) (fun h => ?_))) <;> (try simp only [decide_eq_true_eq, decide_eq_false_iff_not, ge_iff_le, gt_iff_lt] at h) <;> try simp -implicitDefEqProofs only [go_sem, true_and, and_true, beq_true', beq_false', Nat.reduceAdd, Nat.reduceSub, Nat.reduceMul, Nat.reduceLT, Nat.reduceLeDiff, Nat.reduceEqDiff, toNat_cast, Int.natCast_nonneg, Bool.not_not, Bool.not_true, Bool.not_false, decide_true, decide_false, Bool.or_false, Bool.false_or, Bool.or_true, Bool.true_or, Bool.and_false, Bool.false_and, Nat.zero_add, Int.toNat_of_nonneg, wrap_succ, wrap_m1, wrap_nat, succ_m1, cast0, succ_pos', succ_ne', succ_bne', Int.reduceBEq, Int.reduceBNe, Int.reduceNeg, Int.reduceSub, Int.reduceLE, Int.reduceLT, ge_iff_le, gt_iff_lt, ↓reduceIte, if_true, if_false, *]) | ((with_reducible refine And.intro ?_ ?_); (· first | omega | (simp only [List.length_take]; omega)); try simp -implicitDefEqProofs only [go_sem, true_and, and_true, beq_true', beq_false', Nat.reduceAdd, Nat.reduceSub, Nat.reduceMul, Nat.reduceLT, Nat.reduceLeDiff, Nat.reduceEqDiff, toNat_cast, Int.natCast_nonneg, Bool.not_not, Bool.not_true, Bool.not_false, decide_true, decide_false, Bool.or_false, Bool.false_or, Bool.or_true, Bool.true_or, Bool.and_false, Bool.false_and, Nat.zero_add, Int.toNat_of_nonneg, wrap_succ, wrap_m1, wrap_nat, succ_m1, cast0, succ_pos', succ_ne', succ_bne', Int.reduceBEq, Int.reduceBNe, Int.reduceNeg, Int.reduceSub, Int.reduceLE, Int.reduceLT, ge_iff_le, gt_iff_lt, ↓reduceIte, if_true, if_false, *]) | ((with_reducible refine enter_pu (c1) ?_ ?_ ?_); (· rfl); (· rfl); try simp -implicitDefEqProofs only [go_sem, true_and, and_true, beq_true', beq_false', Nat.reduceAdd, Nat.reduceSub, Nat.reduceMul, Nat.reduceLT, Nat.reduceLeDiff, Nat.reduceEqDiff, toNat_cast, Int.natCast_nonneg, Bool.not_not, Bool.not_true, Bool.not_false, decide_true, decide_false, Bool.or_false, Bool.false_or, Bool.or_true, Bool.true_or, Bool.and_false, Bool.false_and, Nat.zero_add, Int.toNat_of_nonneg, wrap_succ, wrap_m1, wrap_nat, succ_m1, cast0, succ_pos', succ_ne', succ_bne', Int.reduceBEq, Int.reduceBNe, Int.reduceNeg, Int.reduceSub, Int.reduceLE, Int.reduceLT, ge_iff_le, gt_iff_lt, ↓reduceIte, if_true, if_false, *])))
    refine fin_pu ?_ rfl
    rw [mayE, hok]
    rfl
  · have c2 := l12May_fn e tx page (wf_of (okE_log hok))
    rw [mayE, hok, Bool.true_and]
    rw [hok] at c1
    simp -implicitDefEqProofs only [go_sem, true_and, and_true, beq_true', beq_false', Nat.reduceAdd, Nat.reduceSub, Nat.reduceMul, Nat.reduceLT, Nat.reduceLeDiff, Nat.reduceEqDiff, toNat_cast, Int.natCast_nonneg, Bool.not_not, Bool.not_true, Bool.not_false, decide_true, decide_false, Bool.or_false, Bool.false_or, Bool.or_true, Bool.true_or, Bool.and_false, Bool.false_and, Nat.zero_add, Int.toNat_of_nonneg, wrap_succ, wrap_m1, wrap_nat, succ_m1, cast0, succ_pos', succ_ne', succ_bne', Int.reduceBEq, Int.reduceBNe, Int.reduceNeg, Int.reduceSub, Int.reduceLE, Int.reduceLT, ge_iff_le, gt_iff_lt, ↓reduceIte, if_true, if_false, Tryz.f5]
    (repeat' (first | ((first | (with_reducible refine gOps_splitn (fun h => ?_) (fun h => ?_)) | (with_reducible refine gOps_split (fun h => ?_) (fun h => ?_)) | (with_reducible refine condP_splitn (fun h => ?_) (fun h => ?_)) | (with_reducible refine condP_split (fun h => ?_) (fun h => ?_)) | (with_reducible refine gPre_splitn (fun h => ?_) (fun h => ?_)) | (with_reducible refine gPre_split (fun h => ?_) (fun h => ?_))) <;> (try simp only [decide_eq_true_eq, decide_eq_false_iff_not, ge_iff_le, gt_iff_lt] at h) <;> try simp -implicitDefEqProofs only [go_sem, true_and, and_true, beq_true', beq_false', Nat.reduceAdd, Nat.reduceSub, Nat.reduceMul, Nat.reduceLT, Nat.reduceLeDiff, Nat.reduceEqDiff, toNat_cast, Int.natCast_nonneg, Bool.not_not, Bool.not_true, Bool.not_false, decide_true, decide_false, Bool.or_false, Bool.false_or, Bool.or_true, Bool.true_or, Bool.and_false, Bool.false_and, Nat.zero_add, Int.toNat_of_nonneg, wrap_succ, wrap_m1, wrap_nat, succ_m1, cast0, succ_pos', succ_ne', succ_bne', Int.reduceBEq, Int.reduceBNe, Int.reduceNeg, Int.reduceSub, Int.reduceLE, Int.reduceLT, ge_iff_le, gt_iff_lt, ↓reduceIte, if_true, if_false, *]) | ((with_reducible refine And.intro ?_ ?_); (· first | omega | (simp only [List.length_take]; omega)); try simp -implicitDefEqProofs only [go_sem, true_and, and_true, beq_true', beq_false', Nat.reduceAdd, Nat.reduceSub, Nat.reduceMul, Nat.reduceLT, Nat.reduceLeDiff, Nat.reduceEqDiff, toNat_cast, Int.natCast_nonneg, Bool.not_not, Bool.not_true, Bool.not_false, decide_true, decide_false, Bool.or_false, Bool.false_or, Bool.or_true, Bool.true_or, Bool.and_false, Bool.false_and, Nat.zero_add, Int.toNat_of_nonneg, wrap_succ, wrap_m1, wrap_nat, succ_m1, cast0, succ_pos', succ_ne', succ_bne', Int.reduceBEq, Int.reduceBNe, Int.reduceNeg, Int.reduceSub, Int.reduceLE, Int.reduceLT, ge_iff_le, gt_iff_lt, ↓reduceIte, if_true, if_false, *]) | first | ((with_reducible refine enter_pu (c1) ?_ ?_ ?_); (· rfl); (· rfl); try simp -implicitDefEqProofs only [go_sem, true_and, and_true, beq_true', beq_false', Nat.reduceAdd, Nat.reduceSub, Nat.reduceMul, Nat.reduceLT, Nat.reduceLeDiff, Nat.reduceEqDiff, toNat_cast, Int.natCast_nonneg, Bool.not_not, Bool.not_true, Bool.not_false, decide_true, decide_false, Bool.or_false, Bool.false_or, Bool.or_true, Bool.true_or, Bool.and_false, Bool.false_and, Nat.zero_add, Int.toNat_of_nonneg, wrap_succ, wrap_m1, wrap_nat, succ_m1, cast0, succ_pos', succ_ne', succ_bne', Int.reduceBEq, Int.reduceBNe, Int.reduceNeg, Int.reduceSub, Int.reduceLE, Int.reduceLT, ge_iff_le, gt_iff_lt, ↓reduceIte, if_true, if_false, *]) | ((with_reducible refine enter_pu (c2) ?_ ?_ ?_); (· rfl); (· rfl); try simp -implicitDefEqProofs only [go_sem, true_and, and_true, beq_true', beq_false', Nat.reduceAdd, Nat.reduceSub, Nat.reduceMul, Nat.reduceLT, Nat.reduceLeDiff, Nat.reduceEqDiff, toNat_cast, Int.natCast_nonneg, Bool.not_not, Bool.not_true, Bool.not_false, decide_true, decide_false, Bool.or_false, Bool.false_or, Bool.or_true, Bool.true_or, Bool.and_false, Bool.false_and, Nat.zero_add, Int.toNat_of_nonneg, wrap_succ, wrap_m1, wrap_nat, succ_m1, cast0, succ_pos', succ_ne', succ_bne', Int.reduceBEq, Int.reduceBNe, Int.reduceNeg, Int.reduceSub, Int.reduceLE, Int.reduceLT, ge_iff_le, gt_iff_lt, ↓reduceIte, if_true, if_false, *])))
    exact fin_pu rfl rfl
theorem sameInts_refl (a : List Int) : sameInts a a = true := by
  unfold sameInts
  simp [allFrom_iff]
theorem sameP_refl (p : Pg) : sameP p p = true := by simp [sameP, sameInts_refl]
theorem sameR_refl (r : Rc) : sameR r r = true := by simp [sameR]
theorem sameE_refl (e : Eng) : sameE e e = true := by
  unfold sameE samePs sameRs
  simp [allFrom_iff, sameP_refl, sameR_refl]
theorem szRest_all (ps : List Pg) (i a : Nat) (h : ¬ szRest ps i a < 0) : ∀ k, i ≤ k → k < ps.length → (at' ps (k : Int)).vals.length ≤ a := by
  induction hm : ps.length - i generalizing i a with
  | zero => intro k h1 h2; omega
  | succ m ih =>
    intro k h1 h2
    rw [szRest_lt (by omega)] at h
    split at h
    · omega
    · rcases Nat.eq_or_lt_of_le h1 with rfl | h1
      · omega
      · have := ih (i + 1) _ h (by omega) k h1 h2
        omega
theorem szPs_all (ps : List Pg) (a : Nat) (h : ¬ szPs ps a < 0) : ps.length ≤ a ∧ ∀ p ∈ ps, p.vals.length ≤ a := by
  unfold szPs at h
  split at h
  · omega
  · refine ⟨by omega, fun p hp => ?_⟩
    obtain ⟨k, hk, rfl⟩ := mem_at hp
    have := szRest_all ps 0 _ h k (Nat.zero_le _) hk
    omega
theorem mid_of {e : Eng} (h : ¬ szE e 1048576 < 0) : e.mid := by
  unfold szE at h
  split at h
  · omega
  · rename_i h1
    split at h
    · omega
    · rename_i h2
      obtain ⟨a1, a2⟩ := szPs_all _ _ h1
      obtain ⟨b1, b2⟩ := szPs_all _ _ h2
      have l1 := szPs_le e.disk 1048576
      have l2 := szPs_le e.mem (szPs e.disk 1048576).toNat
      unfold subI at h
      split at h
      · omega
      · exact ⟨by omega, by omega, by omega, fun p hp => by have := a2 p hp; omega, fun p hp => by have := b2 p hp; omega⟩
theorem law_fn (e : Eng) (tx page : Int) (hs : e.small) : Fn1 Tryz.prog 3 [eA e, I tx, I page] (Bo true) := by
  have c1 := szEngine_fn e 1048576 (by omega) hs
  have c2 := ChangeMayS_fn e tx page hs.disk hs.mem hs.log
  have c3 := ChangeMayI_fn lastC lastOfC recC (pagesC lastC) e tx page hs.disk hs.mem hs.log hs.dv hs.mv
  have c4 := eqEngine_fn e e hs
  rw [sameE_refl] at c4
  refine fn1_of Tryz.func3 rfl rfl ?_
  by_cases hz : szE e 1048576 < 0
  · simp -implicitDefEqProofs only [go_sem, true_and, and_true, beq_true', beq_false', Nat.reduceAdd, Nat.reduceSub, Nat.reduceMul, Nat.reduceLT, Nat.reduceLeDiff, Nat.reduceEqDiff, toNat_cast, Int.natCast_nonneg, Bool.not_not, Bool.not_true, Bool.not_false, decide_true, decide_false, Bool.or_false, Bool.false_or, Bool.or_true, Bool.true_or, Bool.and_false, Bool.false_and, Nat.zero_add, Int.toNat_of_nonneg, wrap_succ, wrap_m1, wrap_nat, succ_m1, cast0, succ_pos', succ_ne', succ_bne', Int.reduceBEq, Int.reduceBNe, Int.reduceNeg, Int.reduceSub, Int.reduceLE, Int.reduceLT, ge_iff_le, gt_iff_lt, ↓reduceIte, if_true, if_false, Tryz.f3, hz]
    (repeat' (first | ((first | (with_reducible refine gOps_splitn (fun h => ?_) (fun h => ?_)) | (with_reducible refine gOps_split (fun h => ?_) (fun h => ?_)) | (with_reducible refine condP_splitn (fun h => ?_) (fun h => ?_)) | (with_reducible refine condP_split (fun h => ?_) (fun h => ?_)) | (with_reducible refine gPre_splitn (fun h => ?_) (fun h => ?_)) | (with_reducible refine gPre_split (fun h => ?_) (fun h => ?_))) <;> (try simp only [decide_eq_true_eq, decide_eq_false_iff_not, ge_iff_le, gt_iff_lt] at h) <;> try simp -implicitDefEqProofs only [go_sem, true_and, and_true, beq_true', beq_false', Nat.reduceAdd, Nat.reduceSub, Nat.reduceMul, Nat.reduceLT, Nat.reduceLeDiff, Nat.reduceEqDiff, toNat_cast, Int.natCast_nonneg, Bool.not_not, Bool.not_true, Bool.not_false, decide_true, decide_false, Bool.or_false, Bool.false_or, Bool.or_true, Bool.true_or, Bool.and_false, Bool.false_and, Nat.zero_add, Int.toNat_of_nonneg, wrap_succ, wrap_m1, wrap_nat, succ_m1, cast0, succ_pos', succ_ne', succ_bne', Int.reduceBEq, Int.reduceBNe, Int.reduceNeg, Int.reduceSub, Int.reduceLE, Int.reduceLT, ge_iff_le, gt_iff_lt, ↓reduceIte, if_true, if_false, *]) | ((with_reducible refine And.intro ?_ ?_); (· first | omega | (simp only [List.length_take]; omega)); try simp -implicitDefEqProofs only [go_sem, true_and, and_true, beq_true', beq_false', Nat.reduceAdd, Nat.reduceSub, Nat.reduceMul, Nat.reduceLT, Nat.reduceLeDiff, Nat.reduceEqDiff, toNat_cast, Int.natCast_nonneg, Bool.not_not, Bool.not_true, Bool.not_false, decide_true, decide_false, Bool.or_false, Bool.false_or, Bool.or_true, Bool.true_or, Bool.and_false, Bool.false_and, Nat.zero_add, Int.toNat_of_nonneg, wrap_succ, wrap_m1, wrap_nat, succ_m1, cast0, succ_pos', succ_ne', succ_bne', Int.reduceBEq, Int.reduceBNe, Int.reduceNeg, Int.reduceSub, Int.reduceLE, Int.reduceLT, ge_iff_le, gt_iff_lt, ↓reduceIte, if_true, if_false, *]) | ((with_reducible refine enter_pu (c1) ?_ ?_ ?_); (· rfl); (· rfl); try simp -implicitDefEqProofs only [go_sem, true_and, and_true, beq_true', beq_false', Nat.reduceAdd, Nat.reduceSub, Nat.reduceMul, Nat.reduceLT, Nat.reduceLeDiff, Nat.reduceEqDiff, toNat_cast, Int.natCast_nonneg, Bool.not_not, Bool.not_true, Bool.not_false, decide_true, decide_false, Bool.or_false, Bool.false_or, Bool.or_true, Bool.true_or, Bool.and_false, Bool.false_and, Nat.zero_add, Int.toNat_of_nonneg, wrap_succ, wrap_m1, wrap_nat, succ_m1, cast0, succ_pos', succ_ne', succ_bne', Int.reduceBEq, Int.reduceBNe, Int.reduceNeg, Int.reduceSub, Int.reduceLE, Int.reduceLT, ge_iff_le, gt_iff_lt, ↓reduceIte, if_true, if_false, *])))
    exact fin_pu rfl rfl
  · have hmid := mid_of hz
    have c5 := toEngine_fn e hmid
    simp -implicitDefEqProofs only [go_sem, true_and, and_true, beq_true', beq_false', Nat.reduceAdd, Nat.reduceSub, Nat.reduceMul, Nat.reduceLT, Nat.reduceLeDiff, Nat.reduceEqDiff, toNat_cast, Int.natCast_nonneg, Bool.not_not, Bool.not_true, Bool.not_false, decide_true, decide_false, Bool.or_false, Bool.false_or, Bool.or_true, Bool.true_or, Bool.and_false, Bool.false_and, Nat.zero_add, Int.toNat_of_nonneg, wrap_succ, wrap_m1, wrap_nat, succ_m1, cast0, succ_pos', succ_ne', succ_bne', Int.reduceBEq, Int.reduceBNe, Int.reduceNeg, Int.reduceSub, Int.reduceLE, Int.reduceLT, ge_iff_le, gt_iff_lt, ↓reduceIte, if_true, if_false, Tryz.f3, hz]
    (repeat' (first | ((first | (with_reducible refine gOps_splitn (fun h => ?_) (fun h => ?_)) | (with_reducible refine gOps_split (fun h => ?_) (fun h => ?_)) | (with_reducible refine condP_splitn (fun h => ?_) (fun h => ?_)) | (with_reducible refine condP_split (fun h => ?_) (fun h => ?_)) | (with_reducible refine gPre_splitn (fun h => ?_) (fun h => ?_)) | (with_reducible refine gPre_split (fun h => ?_) (fun h => ?_))) <;> (try simp only [decide_eq_true_eq, decide_eq_false_iff_not, ge_iff_le, gt_iff_lt] at h) <;> try simp -implicitDefEqProofs only [go_sem, true_and, and_true, beq_true', beq_false', Nat.reduceAdd, Nat.reduceSub, Nat.reduceMul, Nat.reduceLT, Nat.reduceLeDiff, Nat.reduceEqDiff, toNat_cast, Int.natCast_nonneg, Bool.not_not, Bool.not_true, Bool.not_false, decide_true, decide_false, Bool.or_false, Bool.false_or, Bool.or_true, Bool.true_or, Bool.and_false, Bool.false_and, Nat.zero_add, Int.toNat_of_nonneg, wrap_succ, wrap_m1, wrap_nat, succ_m1, cast0, succ_pos', succ_ne', succ_bne', Int.reduceBEq, Int.reduceBNe, Int.reduceNeg, Int.reduceSub, Int.reduceLE, Int.reduceLT, ge_iff_le, gt_iff_lt, ↓reduceIte, if_true, if_false, *]) | ((with_reducible refine And.intro ?_ ?_); (· first | omega | (simp only [List.length_take]; omega)); try simp -implicitDefEqProofs only [go_sem, true_and, and_true, beq_true', beq_false', Nat.reduceAdd, Nat.reduceSub, Nat.reduceMul, Nat.reduceLT, Nat.reduceLeDiff, Nat.reduceEqDiff, toNat_cast, Int.natCast_nonneg, Bool.not_not, Bool.not_true, Bool.not_false, decide_true, decide_false, Bool.or_false, Bool.false_or, Bool.or_true, Bool.true_or, Bool.and_false, Bool.false_and, Nat.zero_add, Int.toNat_of_nonneg, wrap_succ, wrap_m1, wrap_nat, succ_m1, cast0, succ_pos', succ_ne', succ_bne', Int.reduceBEq, Int.reduceBNe, Int.reduceNeg, Int.reduceSub, Int.reduceLE, Int.reduceLT, ge_iff_le, gt_iff_lt, ↓reduceIte, if_true, if_false, *]) | first | ((with_reducible refine enter_pu (c1) ?_ ?_ ?_); (· rfl); (· rfl); try simp -implicitDefEqProofs only [go_sem, true_and, and_true, beq_true', beq_false', Nat.reduceAdd, Nat.reduceSub, Nat.reduceMul, Nat.reduceLT, Nat.reduceLeDiff, Nat.reduceEqDiff, toNat_cast, Int.natCast_nonneg, Bool.not_not, Bool.not_true, Bool.not_false, decide_true, decide_false, Bool.or_false, Bool.false_or, Bool.or_true, Bool.true_or, Bool.and_false, Bool.false_and, Nat.zero_add, Int.toNat_of_nonneg, wrap_succ, wrap_m1, wrap_nat, succ_m1, cast0, succ_pos', succ_ne', succ_bne', Int.reduceBEq, Int.reduceBNe, Int.reduceNeg, Int.reduceSub, Int.reduceLE, Int.reduceLT, ge_iff_le, gt_iff_lt, ↓reduceIte, if_true, if_false, *]) | ((with_reducible refine enter_pu (c5) ?_ ?_ ?_); (· rfl); (· rfl); try simp -implicitDefEqProofs only [go_sem, true_and, and_true, beq_true', beq_false', Nat.reduceAdd, Nat.reduceSub, Nat.reduceMul, Nat.reduceLT, Nat.reduceLeDiff, Nat.reduceEqDiff, toNat_cast, Int.natCast_nonneg, Bool.not_not, Bool.not_true, Bool.not_false, decide_true, decide_false, Bool.or_false, Bool.false_or, Bool.or_true, Bool.true_or, Bool.and_false, Bool.false_and, Nat.zero_add, Int.toNat_of_nonneg, wrap_succ, wrap_m1, wrap_nat, succ_m1, cast0, succ_pos', succ_ne', succ_bne', Int.reduceBEq, Int.reduceBNe, Int.reduceNeg, Int.reduceSub, Int.reduceLE, Int.reduceLT, ge_iff_le, gt_iff_lt, ↓reduceIte, if_true, if_false, *]) | ((with_reducible refine enter_pu (c2) ?_ ?_ ?_); (· rfl); (· rfl); try simp -implicitDefEqProofs only [go_sem, true_and, and_true, beq_true', beq_false', Nat.reduceAdd, Nat.reduceSub, Nat.reduceMul, Nat.reduceLT, Nat.reduceLeDiff, Nat.reduceEqDiff, toNat_cast, Int.natCast_nonneg, Bool.not_not, Bool.not_true, Bool.not_false, decide_true, decide_false, Bool.or_false, Bool.false_or, Bool.or_true, Bool.true_or, Bool.and_false, Bool.false_and, Nat.zero_add, Int.toNat_of_nonneg, wrap_succ, wrap_m1, wrap_nat, succ_m1, cast0, succ_pos', succ_ne', succ_bne', Int.reduceBEq, Int.reduceBNe, Int.reduceNeg, Int.reduceSub, Int.reduceLE, Int.reduceLT, ge_iff_le, gt_iff_lt, ↓reduceIte, if_true, if_false, *]) | ((with_reducible refine enter_pu (c3) ?_ ?_ ?_); (· rfl); (· rfl); try simp -implicitDefEqProofs only [go_sem, true_and, and_true, beq_true', beq_false', Nat.reduceAdd, Nat.reduceSub, Nat.reduceMul, Nat.reduceLT, Nat.reduceLeDiff, Nat.reduceEqDiff, toNat_cast, Int.natCast_nonneg, Bool.not_not, Bool.not_true, Bool.not_false, decide_true, decide_false, Bool.or_false, Bool.false_or, Bool.or_true, Bool.true_or, Bool.and_false, Bool.false_and, Nat.zero_add, Int.toNat_of_nonneg, wrap_succ, wrap_m1, wrap_nat, succ_m1, cast0, succ_pos', succ_ne', succ_bne', Int.reduceBEq, Int.reduceBNe, Int.reduceNeg, Int.reduceSub, Int.reduceLE, Int.reduceLT, ge_iff_le, gt_iff_lt, ↓reduceIte, if_true, if_false, *]) | ((with_reducible refine cp_draw (id := 10) 5 mixed ?_ ?_ ?_); (· decide +kernel); (· first | (simp only [List.all_cons, List.all_nil, List.length_cons, List.length_nil, Nat.reduceAdd, Nat.reduceLT, decide_true, Bool.and_true, Bool.and_self]; done) | rfl); try simp -implicitDefEqProofs only [go_sem, true_and, and_true, beq_true', beq_false', Nat.reduceAdd, Nat.reduceSub, Nat.reduceMul, Nat.reduceLT, Nat.reduceLeDiff, Nat.reduceEqDiff, toNat_cast, Int.natCast_nonneg, Bool.not_not, Bool.not_true, Bool.not_false, decide_true, decide_false, Bool.or_false, Bool.false_or, Bool.or_true, Bool.true_or, Bool.and_false, Bool.false_and, Nat.zero_add, Int.toNat_of_nonneg, wrap_succ, wrap_m1, wrap_nat, succ_m1, cast0, succ_pos', succ_ne', succ_bne', Int.reduceBEq, Int.reduceBNe, Int.reduceNeg, Int.reduceSub, Int.reduceLE, Int.reduceLT, ge_iff_le, gt_iff_lt, ↓reduceIte, if_true, if_false, *]) | ((with_reducible refine pre_enter _ (det_pu (c5) ?_ ?_) ?_ ?_); (· rfl); (· rfl); (· rfl); try simp -implicitDefEqProofs only [go_sem, true_and, and_true, beq_true', beq_false', Nat.reduceAdd, Nat.reduceSub, Nat.reduceMul, Nat.reduceLT, Nat.reduceLeDiff, Nat.reduceEqDiff, toNat_cast, Int.natCast_nonneg, Bool.not_not, Bool.not_true, Bool.not_false, decide_true, decide_false, Bool.or_false, Bool.false_or, Bool.or_true, Bool.true_or, Bool.and_false, Bool.false_and, Nat.zero_add, Int.toNat_of_nonneg, wrap_succ, wrap_m1, wrap_nat, succ_m1, cast0, succ_pos', succ_ne', succ_bne', Int.reduceBEq, Int.reduceBNe, Int.reduceNeg, Int.reduceSub, Int.reduceLE, Int.reduceLT, ge_iff_le, gt_iff_lt, ↓reduceIte, if_true, if_false, *]) | ((with_reducible refine pre_enter _ (det_pu (c4) ?_ ?_) ?_ ?_); (· rfl); (· rfl); (· rfl); try simp -implicitDefEqProofs only [go_sem, true_and, and_true, beq_true', beq_false', Nat.reduceAdd, Nat.reduceSub, Nat.reduceMul, Nat.reduceLT, Nat.reduceLeDiff, Nat.reduceEqDiff, toNat_cast, Int.natCast_nonneg, Bool.not_not, Bool.not_true, Bool.not_false, decide_true, decide_false, Bool.or_false, Bool.false_or, Bool.or_true, Bool.true_or, Bool.and_false, Bool.false_and, Nat.zero_add, Int.toNat_of_nonneg, wrap_succ, wrap_m1, wrap_nat, succ_m1, cast0, succ_pos', succ_ne', succ_bne', Int.reduceBEq, Int.reduceBNe, Int.reduceNeg, Int.reduceSub, Int.reduceLE, Int.reduceLT, ge_iff_le, gt_iff_lt, ↓reduceIte, if_true, if_false, *])))
    · simp at h
    · exact fin_pu rfl rfl
end Go.Proofs.YtkockbbgcdakjaaGreat.Am
end
section
/- What an argument reads as data is plain data of ours: the openings of integers, pages, records, engines. -/
set_option linter.unusedVariables false
set_option linter.unusedSimpArgs false
set_option maxRecDepth 100000
namespace Go.Proofs.YtkockbbgcdakjaaGreat.Am
open Go Go.RowKit Go.Proofs Go.ChangeShapes

theorem mapM_get {α β : Type} {f : α → Option β} : ∀ {xs : List α} {ys : List β}, xs.mapM f = some ys → ys.length = xs.length ∧ ∀ (i : Nat) (x : α), xs[i]? = some x → ∃ y, ys[i]? = some y ∧ f x = some y
  | [], ys, h => by simp at h; subst h; simp
  | x :: xs, ys, h => by
    simp only [List.mapM_cons, Option.bind_eq_bind, Option.bind_eq_some_iff, Option.pure_def, Option.some.injEq] at h
    obtain ⟨y, hy, ys', hys, rfl⟩ := h
    obtain ⟨h1, h2⟩ := mapM_get hys
    refine ⟨by simp [h1], ?_⟩
    rintro (_ | i) x' hx
    · simp at hx; subst hx; exact ⟨y, rfl, hy⟩
    · exact h2 i x' (by simpa using hx)

def IR (n : Int) : Prop := -9223372036854775808 ≤ n ∧ n < 9223372036854775808
theorem ir_of {n : Int} (h : (Lit.int .i64 n).wf = true) : IR n := by
  have h1 : IntKind.i64.min = -9223372036854775808 := rfl
  have h2 : IntKind.i64.max = 9223372036854775807 := rfl
  simp only [Lit.wf, Bool.and_eq_true, decide_eq_true_eq] at h
  unfold IR
  omega
theorem wf_of_ir {n : Int} (h : IR n) : (Lit.int .i64 n).wf = true := by
  have h1 : IntKind.i64.min = -9223372036854775808 := rfl
  have h2 : IntKind.i64.max = 9223372036854775807 := rfl
  simp only [Lit.wf, Bool.and_eq_true, decide_eq_true_eq]
  unfold IR at h
  omega

section
variable {H : Type} {enc : TypeId × Value → H} {w : World} {μ : Nat → Nat}
/-- Every block may be read. -/
abbrev okT : Nat → Prop := fun _ => True
abbrev OkD (μ : Nat → Nat) : Nat → Prop := fun b => okT b ∧ ¬ liveB [] μ b
theorem okD (μ : Nat → Nat) (b : Nat) : OkD μ b := ⟨trivial, by rintro ⟨i, o, hi, _⟩; simp at hi⟩

/-- What is read at a type are the cells of a datum of ours; 'Q' if what is read is small. -/
def Opens (enc : TypeId × Value → H) (w : World) (μ : Nat → Nat) {α : Type} (e : TypeId) (z : Nat) (f : α → D) (Q : α → Prop) : Prop :=
  ∀ (fuel : Nat) (cs : List Value) (d : DataW H) (ps : List MemPlace), DataW.trod enc Tryz.prog w 0 (fun _ => true) true fuel e cs = some (d, ps) →
    ∃ a : α, cs.length = z ∧ (∀ (j : Nat) (y : D), (f a).cells[j]? = some y → ∃ u, cs[j]? = some u ∧ RepD w (OkD μ) y u) ∧ ((d.weights Tryz.prog e).all (· ≤ reachBytes) = true → Q a)

theorem opens_int : Opens enc w μ 3 1 iD IR := by
  intro fuel cs d ps h
  cases fuel with
  | zero => simp [DataW.trod] at h
  | succ fuel =>
    unfold DataW.trod at h
    rw [Tryz.underlying3] at h
    rcases cs with _ | ⟨v, _ | ⟨u, cs⟩⟩
    · simp at h
    · cases v <;> simp only [reduceCtorEq] at h
      rename_i k n
      split at h
      · rename_i hk
        obtain ⟨rfl, hwf⟩ := hk
        refine ⟨n, rfl, ?_, fun _ => ir_of hwf⟩
        rintro (_ | j) y hy
        · simp [iD_cells] at hy; subst hy; exact ⟨_, rfl, .prim _ rfl⟩
        · simp [iD_cells] at hy
      · cases h
    · simp at h

theorem cells?_get {ad : Addr} {n : Nat} {cs : List Value} (h : w.cells? 0 ad n = some cs) : cs.length = n ∧ ∀ j, j < n → ∃ v, cs[j]? = some v ∧ w.cell? (ad.add j) = some v := by
  unfold World.cells? at h
  rw [if_pos (Nat.zero_le _)] at h
  obtain ⟨h1, h2⟩ := mapM_get h
  rw [List.length_range] at h1
  exact ⟨h1, fun j hj => h2 j j (by simp [hj])⟩
theorem weightsAll_get {e : TypeId} : ∀ {ds : List (DataW H)} {i : Nat} {d : DataW H}, ds[i]? = some d → (DataW.weightsAll Tryz.prog e ds).all (· ≤ reachBytes) = true → (d.weights Tryz.prog e).all (· ≤ reachBytes) = true
  | d0 :: ds, 0, d, hi, h => by
    simp at hi; subst hi
    simp only [DataW.weightsAll, List.all_append, Bool.and_eq_true] at h
    exact h.1
  | d0 :: ds, i + 1, d, hi, h => by
    simp only [DataW.weightsAll, List.all_append, Bool.and_eq_true] at h
    exact weightsAll_get (by simpa using hi) h.2
  | [], i, d, hi, h => by simp at hi

theorem opens_sl {α : Type} {e t : TypeId} {z : Nat} {f : α → D} {Q : α → Prop} (he : Opens enc w μ e z f Q) (hu : Tryz.prog.underlying t = some (.slice e)) (hc : Tryz.prog.cellsOf e = z) (hz : 0 < z) (hby : 8 ≤ Tryz.prog.bytesOf e)
    (hf : ∀ a, (f a).cells.length = z ∧ ∀ y ∈ (f a).cells, y.scalar = true) : Opens enc w μ t 1 (fun l : List α => .sl z (l.map f)) (fun l => l.length < 4611686018427387904 ∧ ∀ a ∈ l, Q a) := by
  intro fuel cs d ps h
  cases fuel with
  | zero => simp [DataW.trod] at h
  | succ fuel =>
    unfold DataW.trod at h
    rw [hu] at h
    rcases cs with _ | ⟨v, _ | ⟨u, cs⟩⟩
    · simp at h
    · cases v <;> simp only [reduceCtorEq] at h
      rename_i A len cap
      have key : ∀ (l : List α) (v : Value), RepD w (OkD μ) (.sl z (l.map f)) v → ∀ (j : Nat) (y : D), (D.sl z (l.map f)).cells[j]? = some y → ∃ u, [v][j]? = some u ∧ RepD w (OkD μ) y u := by
        rintro l v hr (_ | j) y hy
        · simp [D.cells] at hy; subst hy; exact ⟨_, rfl, hr⟩
        · simp [D.cells] at hy
      have hzz : ∀ (l : List α) (i : Nat) (x : D), (l.map f)[i]? = some x → x.cells.length = z ∧ ∀ y ∈ x.cells, y.scalar = true := by
        intro l i x hx
        rw [List.getElem?_map] at hx
        obtain ⟨a, -, rfl⟩ := Option.map_eq_some_iff.1 hx
        exact hf a
      rcases A with _ | ad
      · rcases len with _ | len
        · rcases cap with _ | cap
          · exact ⟨[], rfl, key [] _ (.sl z [] 0 _ 0 default (fun _ _ => undef) rfl (Nat.le_refl _) (fun h => absurd rfl h) hz (hzz []) (fun i x j y hi _ => by simp at hi) (fun i x j y hi _ => by simp at hi)), fun _ => ⟨by simp, by simp⟩⟩
          · simp at h
        · simp at h
      · simp only [hc] at h
        split at h
        · rename_i hle
          obtain ⟨-, hle, -⟩ := hle
          simp only [if_true, Option.bind_eq_some_iff, Option.map_eq_some_iff, Prod.mk.injEq] at h
          obtain ⟨elems, hel, rest, hrest, rfl, -⟩ := h
          obtain ⟨n1, g1⟩ := mapM_get hel
          obtain ⟨n2, g2⟩ := mapM_get hrest
          rw [List.length_range] at n1 n2
          have g : ∀ i : _root_.Fin len, ∃ (p : α × List Value), (∃ x, elems[i.1]? = some x ∧ ((x.1.weights Tryz.prog e).all (· ≤ reachBytes) = true → Q p.1)) ∧ w.cells? 0 (ad.add (i.1 * z)) z = some p.2 ∧ (∀ (j : Nat) (y : D), (f p.1).cells[j]? = some y → ∃ u, p.2[j]? = some u ∧ RepD w (OkD μ) y u) := by
            intro i
            obtain ⟨x, hx, hy⟩ := g1 i.1 i.1 (by simp [i.2])
            obtain ⟨cs, hcs, hh⟩ := Option.bind_eq_some_iff.1 hy
            obtain ⟨a, -, h2, h3⟩ := he fuel cs x.1 x.2 hh
            exact ⟨(a, cs), ⟨x, hx, h3⟩, hcs, h2⟩
          obtain ⟨F, hF⟩ := Classical.axiomOfChoice g
          obtain ⟨a, ea⟩ : ∃ a : _root_.Fin len → α, ∀ i, a i = (F i).1 := ⟨_, fun i => rfl⟩
          obtain ⟨cs, ec⟩ : ∃ cs : _root_.Fin len → List Value, ∀ i, cs i = (F i).2 := ⟨_, fun i => rfl⟩
          simp only [← ea, ← ec] at hF
          clear g
          have hgi : ∀ (i : Nat) (x : D), ((List.ofFn a).map f)[i]? = some x → ∃ hi : i < len, x = f (a ⟨i, hi⟩) := by
            intro i x hx
            rw [List.getElem?_map] at hx
            obtain ⟨b, hb, rfl⟩ := Option.map_eq_some_iff.1 hx
            have hlt : i < len := by simpa using (List.getElem?_eq_some_iff.1 hb).1
            refine ⟨hlt, ?_⟩
            rw [List.getElem?_eq_getElem (by simpa using hlt)] at hb
            simp at hb
            rw [hb]
          have hcc : ∀ (i : Nat) (x : D) (j : Nat) (y : D), ((List.ofFn a).map f)[i]? = some x → x.cells[j]? = some y → ∃ (hi : i < len) (u : Value), (cs ⟨i, hi⟩)[j]? = some u ∧ w.cell? ((ad.add (i * z)).add j) = some u ∧ RepD w (OkD μ) y u := by
            intro i x j y hx hy
            obtain ⟨hi, rfl⟩ := hgi i x hx
            obtain ⟨u, hu1, hu2⟩ := (hF ⟨i, hi⟩).2.2 j y hy
            obtain ⟨k1, k2⟩ := cells?_get (hF ⟨i, hi⟩).2.1
            have hj : j < z := by rw [← k1]; exact (List.getElem?_eq_some_iff.1 hu1).1
            obtain ⟨u', hu', hcell⟩ := k2 j hj
            rw [hu1] at hu'
            cases hu'
            exact ⟨hi, u, hu1, hcell, hu2⟩
          have hsp : 0 < len → ad.spot = none := by
            intro h0
            obtain ⟨y, hy⟩ : ∃ y, (f (a ⟨0, h0⟩)).cells[0]? = some y := ⟨_, List.getElem?_eq_getElem (by rw [(hf _).1]; exact hz)⟩
            obtain ⟨_, u, -, hcell, -⟩ := hcc 0 (f (a ⟨0, h0⟩)) 0 y (by simp [h0]) hy
            simpa [Addr.add] using World.cell?_spot hcell
          refine ⟨List.ofFn a, rfl, key _ _ (.sl z _ len _ cap ad (fun i j => ((if hi : i < len then cs ⟨i, hi⟩ else [])[j]?).getD undef) (by simp) (by simp; omega) ?_ hz (hzz _) ?_ ?_), ?_⟩
          · intro hne
            refine ⟨rfl, okD μ _, ?_⟩
            have h0 : 0 < len := by
              rcases Nat.eq_zero_or_pos len with h0 | h0
              · subst h0; simp at hne
              · exact h0
            exact hsp h0
          · intro i x j y hx hy
            obtain ⟨hi, u, h1, h2, -⟩ := hcc i x j y hx hy
            rw [add_add _ _ _ (hsp (by omega))] at h2
            rw [h2]
            simp [hi, h1]
          · intro i x j y hx hy
            obtain ⟨hi, u, h1, h2, h3⟩ := hcc i x j y hx hy
            simpa [hi, h1] using h3
          · intro hw
            simp only [DataW.weights, hu, List.all_cons, List.all_append, Bool.and_eq_true, decide_eq_true_eq, List.length_map] at hw
            obtain ⟨w1, w2, -⟩ := hw
            have hr : reachBytes < 2 ^ 47 := reachBytes_lt
            have hll : (elems.length + rest.length) * 8 ≤ reachBytes := Nat.le_trans (Nat.mul_le_mul_left _ hby) w1
            refine ⟨by simp; omega, ?_⟩
            intro b hb
            obtain ⟨i, rfl⟩ := List.mem_ofFn.1 hb
            obtain ⟨x, hx, hq⟩ := (hF i).1
            exact hq (weightsAll_get (ds := elems.map (·.1)) (i := i.1) (by simp [hx]) w2)
        · cases h
    · simp at h

theorem take_cell {cs : List Value} {k n : Nat} {u : Value} (h : ((cs.drop k).take n)[0]? = some u) (hn : n = 1) : cs[k]? = some u := by
  subst hn
  simpa using h
theorem struct_get {fuel : Nat} {t : TypeId} {fs : Array Field} {cs : List Value} {d : DataW H} {ps : List MemPlace} (hu : Tryz.prog.underlying t = some (.struct fs)) (h : DataW.trod enc Tryz.prog w 0 (fun _ => true) true fuel t cs = some (d, ps)) :
    ∃ (fuel' : Nat) (xs : List (DataW H × List MemPlace)), cs.length = Tryz.prog.cellsOf t ∧ d = .agg (xs.map (·.1)) ∧
      ∀ (i : Nat) (fl : Field), fs.toList[i]? = some fl → ∃ x, xs[i]? = some x ∧ DataW.trod enc Tryz.prog w 0 (fun _ => true) true fuel' fl.type ((cs.drop fl.offset).take (Tryz.prog.cellsOf fl.type)) = some (x.1, x.2) ∧
        ((d.weights Tryz.prog t).all (· ≤ reachBytes) = true → (x.1.weights Tryz.prog fl.type).all (· ≤ reachBytes) = true) := by
  cases fuel with
  | zero => simp [DataW.trod] at h
  | succ fuel =>
    unfold DataW.trod at h
    rw [hu] at h
    simp only at h
    split at h
    · rename_i hl
      obtain ⟨xs, hxs, e⟩ := Option.map_eq_some_iff.1 h
      simp only [Prod.mk.injEq] at e
      obtain ⟨rfl, -⟩ := e
      obtain ⟨n1, g1⟩ := mapM_get hxs
      refine ⟨fuel, xs, hl, rfl, fun i fl hi => ?_⟩
      obtain ⟨x, hx, hy⟩ := g1 i fl hi
      refine ⟨x, hx, hy, fun hw => List.all_eq_true.2 fun n hn => List.all_eq_true.1 hw n ?_⟩
      simp only [DataW.weights, hu]
      exact DataW.weights_mem_each (j := i) (by simp [hi]) (by simp [hx]) n hn
    · cases h

theorem opens_bool : Opens enc w μ 4 1 (fun b : Bool => .prim (.bool b)) (fun _ => True) := by
  intro fuel cs d ps h
  cases fuel with
  | zero => simp [DataW.trod] at h
  | succ fuel =>
    unfold DataW.trod at h
    rw [Tryz.underlying4] at h
    rcases cs with _ | ⟨v, _ | ⟨u, cs⟩⟩
    · simp at h
    · cases v <;> simp only [reduceCtorEq] at h
      rename_i b
      refine ⟨b, rfl, ?_, fun _ => trivial⟩
      rintro (_ | j) y hy
      · cases hy; exact ⟨_, rfl, .prim _ rfl⟩
      · cases hy
    · simp at h
theorem opens_ints : Opens enc w μ 44 1 (fun l : List Int => .sl 1 (l.map iD)) (fun l => l.length < 4611686018427387904 ∧ ∀ a ∈ l, IR a) :=
  opens_sl opens_int Tryz.underlying44 (by kernel_rfl) (by decide) (Nat.le_of_eq (by kernel_rfl)) (fun a => ⟨rfl, by simp [iD_cells]; rfl⟩)
structure Rc.small (r : Rc) : Prop where
  kind : IR r.kind
  tx : IR r.tx
  page : IR r.page
  slot : IR r.slot
  old : IR r.old
  new : IR r.new
  prev : IR r.prev
  next : IR r.next
structure Pg.small (p : Pg) : Prop where
  lsn : IR p.lsn
  owner : IR p.owner
  len : p.vals.length < 4611686018427387904
  vals : ∀ a ∈ p.vals, IR a

theorem opens_rec : Opens enc w μ 63 8 rD Rc.small := by
  intro fuel cs d ps h
  cases fuel with
  | zero => simp [DataW.trod] at h
  | succ fuel =>
    obtain ⟨fuel', xs, hcl, hd, hf⟩ := struct_get Tryz.underlying63 h
    obtain ⟨x0, hx0, ht0, hw0⟩ := hf 0 _ rfl
    obtain ⟨a0, hl0, hr0, hq0⟩ := opens_int (μ := μ) _ _ _ _ ht0
    obtain ⟨u0, hu0, hR0⟩ := hr0 0 _ rfl
    replace hu0 := take_cell hu0 (by kernel_rfl)
    obtain ⟨x1, hx1, ht1, hw1⟩ := hf 1 _ rfl
    obtain ⟨a1, hl1, hr1, hq1⟩ := opens_int (μ := μ) _ _ _ _ ht1
    obtain ⟨u1, hu1, hR1⟩ := hr1 0 _ rfl
    replace hu1 := take_cell hu1 (by kernel_rfl)
    obtain ⟨x2, hx2, ht2, hw2⟩ := hf 2 _ rfl
    obtain ⟨a2, hl2, hr2, hq2⟩ := opens_int (μ := μ) _ _ _ _ ht2
    obtain ⟨u2, hu2, hR2⟩ := hr2 0 _ rfl
    replace hu2 := take_cell hu2 (by kernel_rfl)
    obtain ⟨x3, hx3, ht3, hw3⟩ := hf 3 _ rfl
    obtain ⟨a3, hl3, hr3, hq3⟩ := opens_int (μ := μ) _ _ _ _ ht3
    obtain ⟨u3, hu3, hR3⟩ := hr3 0 _ rfl
    replace hu3 := take_cell hu3 (by kernel_rfl)
    obtain ⟨x4, hx4, ht4, hw4⟩ := hf 4 _ rfl
    obtain ⟨a4, hl4, hr4, hq4⟩ := opens_int (μ := μ) _ _ _ _ ht4
    obtain ⟨u4, hu4, hR4⟩ := hr4 0 _ rfl
    replace hu4 := take_cell hu4 (by kernel_rfl)
    obtain ⟨x5, hx5, ht5, hw5⟩ := hf 5 _ rfl
    obtain ⟨a5, hl5, hr5, hq5⟩ := opens_int (μ := μ) _ _ _ _ ht5
    obtain ⟨u5, hu5, hR5⟩ := hr5 0 _ rfl
    replace hu5 := take_cell hu5 (by kernel_rfl)
    obtain ⟨x6, hx6, ht6, hw6⟩ := hf 6 _ rfl
    obtain ⟨a6, hl6, hr6, hq6⟩ := opens_int (μ := μ) _ _ _ _ ht6
    obtain ⟨u6, hu6, hR6⟩ := hr6 0 _ rfl
    replace hu6 := take_cell hu6 (by kernel_rfl)
    obtain ⟨x7, hx7, ht7, hw7⟩ := hf 7 _ rfl
    obtain ⟨a7, hl7, hr7, hq7⟩ := opens_int (μ := μ) _ _ _ _ ht7
    obtain ⟨u7, hu7, hR7⟩ := hr7 0 _ rfl
    replace hu7 := take_cell hu7 (by kernel_rfl)
    refine ⟨⟨a0, a1, a2, a3, a4, a5, a6, a7⟩, hcl.trans (by kernel_rfl), ?_, fun hw => ⟨hq0 (hw0 hw), hq1 (hw1 hw), hq2 (hw2 hw), hq3 (hw3 hw), hq4 (hw4 hw), hq5 (hw5 hw), hq6 (hw6 hw), hq7 (hw7 hw)⟩⟩
    rintro (_ | _ | _ | _ | _ | _ | _ | _ | j) y hy
    · cases hy; exact ⟨u0, hu0, hR0⟩
    · cases hy; exact ⟨u1, hu1, hR1⟩
    · cases hy; exact ⟨u2, hu2, hR2⟩
    · cases hy; exact ⟨u3, hu3, hR3⟩
    · cases hy; exact ⟨u4, hu4, hR4⟩
    · cases hy; exact ⟨u5, hu5, hR5⟩
    · cases hy; exact ⟨u6, hu6, hR6⟩
    · cases hy; exact ⟨u7, hu7, hR7⟩
    · cases hy

theorem opens_page : Opens enc w μ 46 3 pD Pg.small := by
  intro fuel cs d ps h
  cases fuel with
  | zero => simp [DataW.trod] at h
  | succ fuel =>
    obtain ⟨fuel', xs, hcl, hd, hf⟩ := struct_get Tryz.underlying46 h
    obtain ⟨x0, hx0, ht0, hw0⟩ := hf 0 _ rfl
    obtain ⟨a0, hl0, hr0, hq0⟩ := opens_int (μ := μ) _ _ _ _ ht0
    obtain ⟨u0, hu0, hR0⟩ := hr0 0 _ rfl
    replace hu0 := take_cell hu0 (by kernel_rfl)
    obtain ⟨x1, hx1, ht1, hw1⟩ := hf 1 _ rfl
    obtain ⟨a1, hl1, hr1, hq1⟩ := opens_int (μ := μ) _ _ _ _ ht1
    obtain ⟨u1, hu1, hR1⟩ := hr1 0 _ rfl
    replace hu1 := take_cell hu1 (by kernel_rfl)
    obtain ⟨x2, hx2, ht2, hw2⟩ := hf 2 _ rfl
    obtain ⟨a2, hl2, hr2, hq2⟩ := opens_ints (μ := μ) _ _ _ _ ht2
    obtain ⟨u2, hu2, hR2⟩ := hr2 0 _ rfl
    replace hu2 := take_cell hu2 (by kernel_rfl)
    refine ⟨⟨a0, a1, a2⟩, hcl.trans (by kernel_rfl), ?_, fun hw => ⟨hq0 (hw0 hw), hq1 (hw1 hw), (hq2 (hw2 hw)).1, (hq2 (hw2 hw)).2⟩⟩
    rintro (_ | _ | _ | j) y hy
    · cases hy; exact ⟨u0, hu0, hR0⟩
    · cases hy; exact ⟨u1, hu1, hR1⟩
    · cases hy; exact ⟨u2, hu2, hR2⟩
    · cases hy

theorem opens_pages : Opens enc w μ 22 1 (fun l : List Pg => .sl 3 (l.map pD)) (fun l => l.length < 4611686018427387904 ∧ ∀ a ∈ l, a.small) :=
  opens_sl opens_page Tryz.underlying22 (by kernel_rfl) (by decide) (Nat.le_trans (by decide) (Nat.le_of_eq (by kernel_rfl : (40 : Nat) = _))) (fun a => ⟨rfl, by simp [pD_cells, iD, D.scalar]⟩)
theorem opens_recs : Opens enc w μ 23 1 (fun l : List Rc => .sl 8 (l.map rD)) (fun l => l.length < 4611686018427387904 ∧ ∀ a ∈ l, a.small) :=
  opens_sl opens_rec Tryz.underlying23 (by kernel_rfl) (by decide) (Nat.le_trans (by decide) (Nat.le_of_eq (by kernel_rfl : (64 : Nat) = _))) (fun a => ⟨rfl, by simp [rD_cells, iD, D.scalar]⟩)
def eD (e : Eng) : D := .agg [.sl 3 (e.disk.map pD), .sl 3 (e.mem.map pD), .sl 8 (e.log.map rD), iD e.safe, .prim (.bool e.down)]
/-- What an engine that is read is like. -/
structure Eng.rd (e : Eng) : Prop where
  disk : e.disk.length < 4611686018427387904
  mem : e.mem.length < 4611686018427387904
  log : e.log.length < 4611686018427387904
  dp : ∀ p ∈ e.disk, p.small
  mp : ∀ p ∈ e.mem, p.small
  lr : ∀ r ∈ e.log, r.small
  safe : IR e.safe

theorem opens_eng : Opens enc w μ 25 5 eD Eng.rd := by
  intro fuel cs d ps h
  cases fuel with
  | zero => simp [DataW.trod] at h
  | succ fuel =>
    obtain ⟨fuel', xs, hcl, hd, hf⟩ := struct_get Tryz.underlying25 h
    obtain ⟨x0, hx0, ht0, hw0⟩ := hf 0 _ rfl
    obtain ⟨a0, hl0, hr0, hq0⟩ := opens_pages (μ := μ) _ _ _ _ ht0
    obtain ⟨u0, hu0, hR0⟩ := hr0 0 _ rfl
    replace hu0 := take_cell hu0 (by kernel_rfl)
    obtain ⟨x1, hx1, ht1, hw1⟩ := hf 1 _ rfl
    obtain ⟨a1, hl1, hr1, hq1⟩ := opens_pages (μ := μ) _ _ _ _ ht1
    obtain ⟨u1, hu1, hR1⟩ := hr1 0 _ rfl
    replace hu1 := take_cell hu1 (by kernel_rfl)
    obtain ⟨x2, hx2, ht2, hw2⟩ := hf 2 _ rfl
    obtain ⟨a2, hl2, hr2, hq2⟩ := opens_recs (μ := μ) _ _ _ _ ht2
    obtain ⟨u2, hu2, hR2⟩ := hr2 0 _ rfl
    replace hu2 := take_cell hu2 (by kernel_rfl)
    obtain ⟨x3, hx3, ht3, hw3⟩ := hf 3 _ rfl
    obtain ⟨a3, hl3, hr3, hq3⟩ := opens_int (μ := μ) _ _ _ _ ht3
    obtain ⟨u3, hu3, hR3⟩ := hr3 0 _ rfl
    replace hu3 := take_cell hu3 (by kernel_rfl)
    obtain ⟨x4, hx4, ht4, hw4⟩ := hf 4 _ rfl
    obtain ⟨a4, hl4, hr4, hq4⟩ := opens_bool (μ := μ) _ _ _ _ ht4
    obtain ⟨u4, hu4, hR4⟩ := hr4 0 _ rfl
    replace hu4 := take_cell hu4 (by kernel_rfl)
    refine ⟨⟨a0, a1, a2, a3, a4⟩, hcl.trans (by kernel_rfl), ?_, fun hw => ⟨(hq0 (hw0 hw)).1, (hq1 (hw1 hw)).1, (hq2 (hw2 hw)).1, (hq0 (hw0 hw)).2, (hq1 (hw1 hw)).2, (hq2 (hw2 hw)).2, hq3 (hw3 hw)⟩⟩
    rintro (_ | _ | _ | _ | _ | j) y hy
    · cases hy; exact ⟨u0, hu0, hR0⟩
    · cases hy; exact ⟨u1, hu1, hR1⟩
    · cases hy; exact ⟨u2, hu2, hR2⟩
    · cases hy; exact ⟨u3, hu3, hR3⟩
    · cases hy; exact ⟨u4, hu4, hR4⟩
    · cases hy
end
end Go.Proofs.YtkockbbgcdakjaaGreat.Am
end
section
/- From a law's contract over plain data to a call that returns true and leaves all that was. -/
set_option linter.unusedVariables false
set_option linter.unusedSimpArgs false
set_option maxRecDepth 100000
set_option linter.constructorNameAsVariable false
namespace Go.Proofs.YtkockbbgcdakjaaGreat.Am
open Go Go.RowKit Go.Proofs Go.ChangeShapes Go.WideShapes

/-- A law over data: it returns true, and below the heap nothing has turned. -/
theorem calls_of_law {f : FuncId} {args : List AV} (h : Fn1 Tryz.prog f args (Bo true)) (w : World) (vs : Array Value) (hl : vs.size = args.length) (hr : ∀ (j : Nat) (x : AV), args[j]? = some x → Rep okT w (fun i => i) [] x (vs.getD j undef)) :
    Calls Tryz.prog f vs w fun e w' => e = .returned (.bool true) ∧ Below w.heap.size w w' := by
  refine (h.2 okT (fun i => i) w vs (fun _ _ => trivial) ⟨by simp, by simp, by simp⟩ hl hr).mono ?_
  rintro e w' ⟨r', v, S', mv, μ', rfl, ⟨⟨rfl, rfl⟩, rfl⟩, hrs, hrep, hmod, _⟩
  cases hrep
  exact ⟨rfl, hmod.os, hmod.tape, hmod.output, hmod.size, fun k hk => hmod.keep k hk (by rintro ⟨i, o, hi, _⟩; simp at hi)⟩

section
variable {H : Type} {enc : TypeId × Value → H} {w : World}
theorem rep_of_d {μ : Nat → Nat} {x : D} {v : Value} (h : RepD w (OkD μ) x v) (hs : x.scalar = true) : Rep okT w μ [] x.av0 v := by
  cases x with
  | prim u => cases h; exact .prim _ (by assumption)
  | agg xs => simp [D.scalar] at hs
  | sl z xs => exact .sl z xs v h
/-- An engine that is an argument. -/
theorem open_eng {r : Reach} {b0 : Nat} {v : Value} {d : DataW H} {ps : List MemPlace} (hval : Value.okWide Tryz.prog w r b0 25 v) (hd : DataW.Trod enc Tryz.prog w 0 (fun _ => true) true 25 v d ps)
    (hw : (d.weights Tryz.prog 25).all (· ≤ reachBytes) = true) : ∃ e : Eng, e.rd ∧ Rep okT w (fun i => i) [] (eA e) v := by
  obtain ⟨cs, rfl, hsz⟩ := okWide_struct Tryz.underlying25 hval
  obtain ⟨fuel, hf⟩ := hd
  obtain ⟨e, hl, hr, hq⟩ := opens_eng (μ := fun i => i) _ _ _ _ hf
  refine ⟨e, hq hw, ?_⟩
  obtain ⟨cs⟩ := cs
  refine .agg _ cs (by simpa [Value.cells] using hl) (by simp [AV.scalar]) ?_
  intro j x v hj hv
  have key : ∀ y : D, (eD e).cells[j]? = some y → y.scalar = true → y.av0 = x → Rep okT w (fun i => i) [] x v := by
    intro y hy hs e1
    obtain ⟨u, hu, hR⟩ := hr j y hy
    simp only [Value.cells] at hu
    rw [hv] at hu
    cases hu
    rw [← e1]
    exact rep_of_d hR hs
  rcases j with _ | _ | _ | _ | _ | j
  all_goals first | (cases hj; exact key _ rfl rfl rfl) | (cases hj)
theorem rep_int {μ : Nat → Nat} (n : Int) : Rep okT w μ [] (I n) (.int .i64 n) := .prim _ rfl
theorem rep_bool {μ : Nat → Nat} (b : Bool) : Rep okT w μ [] (Bo b) (.bool b) := .prim _ rfl
end
theorem laidOut : laidOutB Tryz.prog = true := by kernel_rfl
theorem ownK : ownKnob Tryz.prog.godebug = none := by kernel_rfl
end Go.Proofs.YtkockbbgcdakjaaGreat.Am
end
