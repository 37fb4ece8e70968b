/- Lemmas and walks: Ld Le Fx Op Oq Ra Ga Gb Gc Gd Ge Gf Gg Gh Gi Gj Gk Gl Gm Gn. No conditions. -/
import Derived.Test.YtjdebcankncfaabGreatSh
import Derived.Test.YtjdebcankncfaabGreatJ4
import Derived.Test.YtjdebcankncfaabGreatJ2
import Derived.Laws.Strings
import Derived.Test.YtjdebcankncfaabGreatJ3
import Derived.ProofKit
import Derived.SizedLaws
import Derived.Test.YtjdebcankncfaabGreatChecked
import Derived.Carry
section
set_option linter.unusedVariables false
set_option linter.unusedSimpArgs false
set_option maxRecDepth 100000
set_option maxHeartbeats 8000000
namespace Go.Proofs.YtjdebcankncfaabGreat.Am
open Go Go.RowKit Go.Proofs
attribute [local congr] opsP_congr codeP_congr AWP_congr afterR_congr preP_congr afterPre_congr gPre_congr gOps_congr condP_congr stepE_congr
attribute [local go_sem] ty_int ty_bool ty_str ty_u8 ty_ints ty_bytes ty_page ty_pages ty_lpage ty_lpages ty_rec ty_recs ty_lrec ty_lrecs ty_eng ty_leng
attribute [local go_sem] true_and and_true beq_true' beq_false' toNat_cast Int.natCast_nonneg Bool.not_not Bool.not_true Bool.not_false decide_true decide_false Bool.or_false Bool.false_or Bool.or_true Bool.true_or Bool.and_false Bool.false_and Nat.zero_add Int.toNat_of_nonneg wrap_succ wrap_m1 wrap_nat succ_m1 cast0 succ_pos' succ_ne' succ_bne' ge_iff_le gt_iff_lt if_true if_false
open Go.Sort Go.RowKit Go.Lib
/-- The one object of a call, its numbers written anew by the library. -/
theorem own_put {ok : Nat → Prop} {μ : Nat → Nat} {w : World} {l l' : List Int} (hl : l'.length = l.length) (hne : l ≠ []) (hrs : RelS ok w μ [some ⟨1, l.map I⟩]) (n : Nat) (os : Array Obj) (w' : World)
    (hw' : w' = grow (putRow (Value.int .i64) (Sort.ahead w n) (μ 0) 0 l'.toArray) os) :
    RelS ok w' μ [some ⟨1, l'.map I⟩] ∧ Mod w (liveB [some ⟨1, l.map I⟩] μ) w' ∧ (∀ b, b < w.heap.size → liveB [some ⟨1, l'.map I⟩] μ b → liveB [some ⟨1, l.map I⟩] μ b) := by
  subst hw'
  obtain ⟨cs, ty, hb, hs, hc⟩ := hrs.blk 0 ⟨1, l.map I⟩ rfl (by simpa using hne)
  have hg := grownBy_sortedI (w := w) (g := μ 0) (n := n) (os := os) l'.toArray
  have hh := heap_sortedI (n := n) (os := os) l'.toArray hb
  have hcs : l.length ≤ cs.size := by simpa using hs
  have hlive : liveB [some ⟨1, l.map I⟩] μ (μ 0) := ⟨0, ⟨1, l.map I⟩, rfl, by simpa using hne, rfl⟩
  refine ⟨⟨?_, ?_, ?_⟩, ?_, ?_⟩
  · intro i o hi hne'
    rcases i with _ | i
    · simp at hi
      subst hi
      refine ⟨_, ty, hh, by simp [putCells, hl]; omega, fun k x j y hk hj => ?_⟩
      simp only [List.getElem?_map, Option.map_eq_some_iff] at hk
      obtain ⟨m, hm, rfl⟩ := hk
      have hkl := (List.getElem?_eq_some_iff.1 hm).1
      rcases j with _ | j
      · simp [AV.cells] at hj
        subst hj
        refine ⟨.int .i64 m, ?_, .prim _ rfl⟩
        have hkc : k < cs.size := by omega
        simp [putCells, hkc, hkl]
        exact (List.getElem?_eq_some_iff.1 hm).2
      · simp [AV.cells] at hj
    · simp at hi
  · intro i o hi
    rcases i with _ | i
    · simp at hi
      subst hi
      refine ⟨by simp, fun x hx => ?_⟩
      obtain ⟨m, _, rfl⟩ := List.mem_map.1 hx
      simp [AV.cells, AV.scalar]
    · simp at hi
  · intro i j oi oj hi hj _ _ _
    have h1 := (List.getElem?_eq_some_iff.1 hi).1
    have h2 := (List.getElem?_eq_some_iff.1 hj).1
    simp at h1 h2
    omega
  · refine ⟨hg.os, hg.tape, hg.output, hg.size, fun b hbl hn => hg.block b hbl (fun e => hn (by cases e; exact hlive)), fun b cs' ty' fz hb' => ?_⟩
    by_cases e : b = μ 0
    · subst e
      rw [hb] at hb'
      cases hb'
      exact ⟨_, hh, by simp [putCells]⟩
    · exact ⟨cs', (hg.block b (Array.getElem?_eq_some_iff.1 hb').1 (fun e' => e (by cases e'; rfl))).trans hb', rfl⟩
  · rintro b _ ⟨i, o, hi, _, rfl⟩
    have h1 := (List.getElem?_eq_some_iff.1 hi).1
    simp at h1
    subst h1
    exact hlive
theorem holds_own {ok : Nat → Prop} {μ : Nat → Nat} {w : World} {l : List Int} (hne : l ≠ []) (hrs : RelS ok w μ [some ⟨1, l.map I⟩]) : Holds (Value.int .i64) w (μ 0) 0 l.toArray ∧ μ 0 < w.heap.size := by
  obtain ⟨cs, ty, hb, hs, hc⟩ := hrs.blk 0 ⟨1, l.map I⟩ rfl (by simpa using hne)
  refine ⟨fun j hj => ?_, (Array.getElem?_eq_some_iff.1 hb).1⟩
  have hj' : j < l.length := by simpa using hj
  obtain ⟨v, hv, hr⟩ := hc j (I l[j]) 0 (I l[j]) (by simp [List.getElem?_map, List.getElem?_eq_getElem hj']) rfl
  cases hr
  refine ⟨?_, ?_⟩
  · simp only [World.cell?, hb, Nat.zero_add]
    simpa [hj'] using hv
  · simp [World.frozen?, hb]
theorem own_val {ok : Nat → Prop} {μ : Nat → Nat} {w : World} {S : Store} {n : Nat} {v : Value} (h : Rep ok w μ S (.own 0 1 0 n) v) : (n = 0 ∧ ∃ A, v = .slice A 0 0) ∨ (0 < n ∧ ∃ c cs ty, v = .slice (some ⟨μ 0, 0, none⟩) n c ∧ n ≤ c ∧ w.heap[μ 0]? = some (.cells cs ty (0, 0)) ∧ c ≤ cs.size) := by
  cases h with
  | own0 _ _ _ A hi => exact .inl ⟨rfl, A, rfl⟩
  | own _ _ _ _ c cs ty hi h0 hc hb hsz => exact .inr ⟨h0, c, cs, ty, by simp, hc, hb, by simpa using hsz⟩
def sorted (l : List Int) : List Int := l.mergeSort fun x y => decide (x ≤ y)
theorem sorted_len (l : List Int) : (sorted l).length = l.length := List.length_mergeSort l
theorem sorted_nil : sorted [] = [] := by simp [sorted]
theorem Sort_own (l : List Int) (hb : l.length < 4611686018427387904) : AFn Tryz.prog 120 [.own 0 1 0 l.length] [some ⟨1, l.map I⟩] (fun r S' mv => (r = .tup [] ∧ S' = [some ⟨1, (sorted l).map I⟩]) ∧ mv = []) := by
  refine ⟨⟨_, Tryz.func120, by decide, rfl⟩, fun ok μ w vs hok hrs hl hr => ?_⟩
  obtain ⟨v, rfl⟩ : ∃ v, vs = #[v] := by
    rcases vs with ⟨vs⟩
    rcases vs with _ | ⟨v0, _ | ⟨v1, vs⟩⟩ <;> simp at hl
    exact ⟨v0, rfl⟩
  have r0 : Rep ok w μ [some ⟨1, l.map I⟩] (.own 0 1 0 l.length) v := hr 0 _ rfl
  rcases own_val r0 with ⟨h0, A, rfl⟩ | ⟨h0, c, cs, ty, rfl, hc, hbk, hcs⟩
  · obtain rfl := List.eq_nil_of_length_eq_zero h0
    refine (Tryz.slices_Sort_int_none A 0 w).mono ?_
    rintro e w' ⟨rfl, rfl⟩
    rw [sorted_nil]
    exact ⟨_, _, _, [], μ, rfl, ⟨⟨rfl, rfl⟩, rfl⟩, hrs, .tup [] [] rfl (fun j x v hj _ => by simp at hj), Mod.refl _ _, fun b _ h => h, Nat.le_refl _, fun i _ _ => rfl⟩
  · have hne : l ≠ [] := by intro e; subst e; simp at h0
    obtain ⟨hH, hlt⟩ := holds_own hne hrs
    refine (Tryz.slices_Sort_int (μ 0) 0 c l w hH hlt hb).mono ?_
    rintro e w' ⟨rfl, n, os, hw'⟩
    obtain ⟨p1, p2, p3⟩ := own_put (sorted_len l) hne hrs n os w' hw'
    exact ⟨_, _, _, [], μ, rfl, ⟨⟨rfl, rfl⟩, rfl⟩, p1, .tup [] [] rfl (fun j x v hj _ => by simp at hj), p2, p3, Nat.le_refl _, fun i _ _ => rfl⟩
/-- What a list leaves when neighbours that are the same are one; and zeros behind it. -/
def once (l : List Int) : List Int := Go.Lib.compact l
def onceZ (l : List Int) : List Int := once l ++ List.replicate (l.length - (once l).length) 0
theorem Compact_own (l : List Int) (hb : l.length < 4611686018427387904) (hlen : (once l).length ≤ l.length) (hpos : l ≠ [] → once l ≠ []) : AFn Tryz.prog 122 [.own 0 1 0 l.length] [some ⟨1, l.map I⟩]
    (fun r S' mv => (r = .own 0 1 0 (once l).length ∧ S' = [some ⟨1, (onceZ l).map I⟩]) ∧ mv = []) := by
  refine ⟨⟨_, Tryz.func122, by decide, rfl⟩, fun ok μ w vs hok hrs hl hr => ?_⟩
  obtain ⟨v, rfl⟩ : ∃ v, vs = #[v] := by
    rcases vs with ⟨vs⟩
    rcases vs with _ | ⟨v0, _ | ⟨v1, vs⟩⟩ <;> simp at hl
    exact ⟨v0, rfl⟩
  have r0 : Rep ok w μ [some ⟨1, l.map I⟩] (.own 0 1 0 l.length) v := hr 0 _ rfl
  rcases own_val r0 with ⟨h0, A, rfl⟩ | ⟨h0, c, cs, ty, rfl, hc, hbk, hcs⟩
  · obtain rfl := List.eq_nil_of_length_eq_zero h0
    refine (Tryz.slices_Compact_int_empty A 0 w).mono ?_
    rintro e w' ⟨rfl, rfl⟩
    exact ⟨_, _, _, [], μ, rfl, ⟨⟨rfl, rfl⟩, rfl⟩, hrs, .own0 _ _ _ _ (by simp), Mod.refl _ _, fun b _ h => h, Nat.le_refl _, fun i _ _ => rfl⟩
  · have hne : l ≠ [] := by intro e; subst e; simp at h0
    obtain ⟨hH, hlt⟩ := holds_own hne hrs
    refine (Tryz.slices_Compact_int (μ 0) 0 c l w hH (by omega) hc).mono ?_
    rintro e w' ⟨rfl, q, hw'⟩
    have hz : (onceZ l).length = l.length := by simp only [onceZ, List.length_append, List.length_replicate]; omega
    obtain ⟨p1, p2, p3⟩ := own_put hz hne hrs q #[] w' (by rw [grow_empty]; exact hw')
    obtain ⟨cs', hb', es⟩ := p2.shape _ _ _ _ hbk
    refine ⟨_, _, _, [], μ, rfl, ⟨⟨rfl, rfl⟩, rfl⟩, p1, ?_, p2, p3, Nat.le_refl _, fun i _ _ => rfl⟩
    have h1 : 0 < (once l).length := List.length_pos_iff.2 (hpos hne)
    have := Rep.own (ok := ok) (w := w') (μ := μ) (S := [some ⟨1, (onceZ l).map I⟩]) 0 1 0 (once l).length c cs' ty (by simp) h1 (by omega) hb' (by omega)
    simpa [once] using this
end Go.Proofs.YtjdebcankncfaabGreat.Am
end
section
set_option linter.unusedVariables false
set_option linter.unusedSimpArgs false
set_option maxRecDepth 100000
set_option maxHeartbeats 8000000
namespace Go.Proofs.YtjdebcankncfaabGreat.Am
open Go Go.RowKit Go.Proofs
attribute [local go_sem_proc] Nat.reduceAdd Nat.reduceSub Nat.reduceMul Nat.reduceLT Nat.reduceLeDiff Nat.reduceEqDiff Int.reduceBEq Int.reduceBNe Int.reduceNeg Int.reduceSub Int.reduceLE Int.reduceLT
attribute [local go_sem_proc ↓] reduceIte
attribute [local congr] opsP_congr codeP_congr AWP_congr afterR_congr preP_congr afterPre_congr gPre_congr gOps_congr condP_congr stepE_congr
attribute [local go_sem] ty_int ty_bool ty_str ty_u8 ty_ints ty_bytes ty_page ty_pages ty_lpage ty_lpages ty_rec ty_recs ty_lrec ty_lrecs ty_eng ty_leng
attribute [local go_sem] true_and and_true beq_true' beq_false' toNat_cast Int.natCast_nonneg Bool.not_not Bool.not_true Bool.not_false decide_true decide_false Bool.or_false Bool.false_or Bool.or_true Bool.true_or Bool.and_false Bool.false_and Nat.zero_add Int.toNat_of_nonneg wrap_succ wrap_m1 wrap_nat succ_m1 cast0 succ_pos' succ_ne' succ_bne' ge_iff_le gt_iff_lt if_true if_false
open Go.Lib in
theorem mem_once (l : List Int) (x : Int) : x ∈ once l ↔ x ∈ l := by
  unfold once compact compactUpTo
  simp only [List.mem_map, List.mem_filter, List.mem_range]
  constructor
  · rintro ⟨j, ⟨hj, _⟩, rfl⟩
    simp [hj]
  · intro h
    obtain ⟨j, hj, rfl⟩ := List.mem_iff_getElem.1 h
    induction j using Nat.strongRecOn with
    | _ j ih =>
      by_cases hk : keeps l.toArray j = true
      · exact ⟨j, ⟨hj, hk⟩, by simp [hj]⟩
      · have hj0 : 0 < j := by
          rcases Nat.eq_zero_or_pos j with rfl | h0
          · exact absurd (keeps_lt_one l.toArray 0 (by omega)) hk
          · exact h0
        have e : l.toArray[j]! = l.toArray[j - 1]! := Classical.byContradiction fun hn => hk (keeps_pos hn)
        simp [hj, show j - 1 < l.length by omega] at e
        obtain ⟨q, h1, h2⟩ := ih (j - 1) (by omega) (by omega) (List.getElem_mem _)
        exact ⟨q, h1, by rw [h2, e]⟩
open Go.Lib in
theorem once_len (l : List Int) : (once l).length ≤ l.length := by
  unfold once compact compactUpTo
  rw [List.length_map]
  exact Nat.le_trans (List.length_filter_le _ _) (by simp)
theorem once_pos {l : List Int} (h : l ≠ []) : once l ≠ [] := by
  obtain ⟨x, hx⟩ := List.exists_mem_of_ne_nil l h
  intro e
  have := (mem_once l x).2 hx
  rw [e] at this
  cases this
/-- The pages of the records of a chain of which something holds. -/
def pgsRaw (l : List Rc) (pred : Rc → Bool) (c : List Nat) : List Int := (c.filter fun n : Nat => pred (at' l ((n : Int) - 1))).map fun n : Nat => (at' l ((n : Int) - 1)).page
def pgsOf (l : List Rc) (tx : Int) (pred : Rc → Bool) : List Int := once (sorted (pgsRaw l pred (chain l (lastN l tx))))
theorem pgsRaw_nil (l : List Rc) (pred : Rc → Bool) : pgsRaw l pred [] = [] := rfl
theorem pgsRaw_app (l : List Rc) (pred : Rc → Bool) (a b : List Nat) : pgsRaw l pred (a ++ b) = pgsRaw l pred a ++ pgsRaw l pred b := by simp [pgsRaw]
theorem chain_mem {l : List Rc} (hw : Wf l) {n : Nat} : ∀ m, m ≤ l.length → n ∈ chain l m → ∃ b, n = b + 1 ∧ b < l.length := by
  intro m
  induction m using Nat.strongRecOn with
  | _ m ih =>
    intro hm h
    rcases m with _ | b
    · rw [chain_zero] at h; cases h
    · obtain ⟨p, hp, hpv⟩ := hw.prev b (by omega)
      rw [chain_succ hpv hp] at h
      rcases List.mem_cons.1 h with rfl | h
      · exact ⟨b, rfl, by omega⟩
      · exact ih p (by omega) (by omega) h
@[local go_sem] theorem sc_clo0 {i g : Nat} : AV.sc [i] (.clo g []) = .clo g [] := rfl
def clipO (te : Option TI) (i z off len : Nat) (h m : AV) : OpR := match te, bndV h, bndV m with
  | some te, some h, some m => .val ((0 : Int) = 0 ∧ h = len ∧ m = len ∧ te.zs.length = z ∧ true = true) (.own i z off len)
  | _, _, _ => .stuck
@[local go_sem] theorem sliceO_clip {te : TI} {tm : List AV} {i z off len : Nat} {h m : Operand} : sliceO (some te) tm (.own i z off len) none (some h) (some m) = clipO (some te) i z off len (ev tm h) (ev tm m) := by
  simp only [sliceO, clipO, bnd_none, bnd_some, Option.isSome_some]
  split <;> simp_all
@[local go_sem] theorem clipO_some {te : TI} {i z off len : Nat} {k k' : IntKind} {h m : Int} : clipO (some te) i z off len (.prim (.int k h)) (.prim (.int k' m)) = .val ((0 : Int) = 0 ∧ h = len ∧ m = len ∧ te.zs.length = z ∧ true = true) (.own i z off len) := rfl
theorem Clip_own (n : Nat) (o : AObj) (hn : n < 4611686018427387904) : AFn Tryz.prog 121 [.own 0 1 0 n] [some o] (fun r S' mv => (r = .own 0 1 0 n ∧ S' = [some o]) ∧ mv = []) := by
  refine afn_of Tryz.func121 rfl rfl ?_
  simp -implicitDefEqProofs only [go_sem, Tryz.f121]
  (repeat' (first | ((with_reducible first | refine gon ?_ ?_ | refine gos ?_ ?_ | refine cdn ?_ ?_ | refine cds ?_ ?_ | refine gpn ?_ ?_ | refine gps ?_ ?_) <;> intro h <;> (try simp only [dt, df, gi, gt] at h) <;> try simp -implicitDefEqProofs only [go_sem, *]) | ((with_reducible refine And.intro ?_ ?_); (· first | omega | (simp only [List.length_take]; omega)); try simp -implicitDefEqProofs only [go_sem, *]) | fail))
  exact fin_same ⟨⟨rfl, rfl⟩, rfl⟩
theorem arg0_pre (l : List Int) (k : List Int) : Arg0 [some ⟨1, (l ++ k).map I⟩] true (.own 0 1 0 l.length) (ints l) := by
  refine .own 0 1 0 l.length ⟨1, (l ++ k).map I⟩ (l.map iD) rfl rfl rfl (by simp) ?_
  simp only [List.drop_zero, List.map_append]
  rw [show (l.map I ++ k.map I).take l.length = l.map I by rw [List.take_left' (by simp)]]
  exact isDs_I l
theorem pgsRaw_len (l : List Rc) (pred : Rc → Bool) (c : List Nat) : (pgsRaw l pred c).length ≤ c.length := by
  unfold pgsRaw
  rw [List.length_map]
  exact List.length_filter_le _ _
theorem mem_sorted (l : List Int) (x : Int) : x ∈ sorted l ↔ x ∈ l := List.mem_mergeSort
theorem mem_pgsOf (l : List Rc) (tx : Int) (pred : Rc → Bool) (x : Int) : x ∈ pgsOf l tx pred ↔ ∃ n ∈ chain l (lastN l tx), pred (at' l ((n : Int) - 1)) = true ∧ (at' l ((n : Int) - 1)).page = x := by
  unfold pgsOf
  rw [mem_once, mem_sorted, pgsRaw, List.mem_map]
  constructor
  · rintro ⟨n, hn, rfl⟩
    obtain ⟨h1, h2⟩ := List.mem_filter.1 hn
    exact ⟨n, h1, h2, rfl⟩
  · rintro ⟨n, h1, h2, rfl⟩
    exact ⟨n, List.mem_filter.2 ⟨h1, h2⟩, rfl⟩
theorem pgsOf_len (l : List Rc) (tx : Int) (pred : Rc → Bool) (hw : Wf l) : (pgsOf l tx pred).length ≤ 200 := by
  have h1 := once_len (sorted (pgsRaw l pred (chain l (lastN l tx))))
  rw [sorted_len] at h1
  have h2 := pgsRaw_len l pred (chain l (lastN l tx))
  have h3 := chain_len l (lastN l tx)
  have h4 := lastN_le l tx
  have h5 := hw.len
  unfold pgsOf
  omega
theorem pagesOf_fn (hl : LastC) (l : List Rc) (tx : Int) (h : FuncId) (pred : Rc → Bool) (hw : Wf l) (hh : ∀ r, Fn1 Tryz.prog h [rA r] (Bo (pred r))) : Fn1 Tryz.prog 101 [recs l, I tx, .clo h []] (ints (pgsOf l tx pred)) := by
  have hlen := hw.len
  have hcl := chain_len l (lastN l tx)
  have hll := lastN_le l tx
  have hch := chain_fn hl l tx hw
  obtain ⟨c, hc⟩ : ∃ c, chain l (lastN l tx) = c := ⟨_, rfl⟩
  rw [hc] at hcl hch
  have hcm : ∀ n ∈ c, ∃ b, n = b + 1 ∧ b < l.length := fun n hn => chain_mem hw _ hll (by rw [hc]; exact hn)
  have hout : pgsOf l tx pred = once (sorted (pgsRaw l pred c)) := by rw [pgsOf, hc]
  have hcb : c.length < 4611686018427387904 := by omega
  rw [hout]
  clear hout hc
  refine fn1_of Tryz.func101 rfl rfl ?_
  simp -implicitDefEqProofs only [go_sem, Tryz.f101]
  (repeat' (first | ((with_reducible first | refine gon ?_ ?_ | refine gos ?_ ?_ | refine cdn ?_ ?_ | refine cds ?_ ?_ | refine gpn ?_ ?_ | refine gps ?_ ?_) <;> intro h <;> (try simp only [dt, df, gi, gt] at h) <;> try simp -implicitDefEqProofs only [go_sem, *]) | ((with_reducible refine And.intro ?_ ?_); (· first | omega | (simp only [List.length_take]; omega)); try simp -implicitDefEqProofs only [go_sem, *]) | ((with_reducible refine enter_pu (hch) ?_ ?_ ?_); (· rfl); (· rfl); try simp -implicitDefEqProofs only [go_sem, *])))
  refine cp_loop (fun i : Nat => ⟨(recs l :: I tx :: .clo h [] :: .any :: .any :: .any :: nilS :: .own 0 1 0 (pgsRaw l pred (c.take i)).length :: .any :: .any :: .any :: .any :: .any :: ints (c.map fun n : Nat => (n : Int)) :: I (c.length : Int) :: I (i : Int) :: .any :: .any :: .any :: .any :: .any :: .any :: .any :: .any :: .any :: .any :: .any :: .any :: .any :: .any :: .any :: .any :: .any :: .any :: .any :: .any :: .any :: .any :: []), [some ⟨1, (pgsRaw l pred (c.take i)).map I⟩], [0]⟩) (fun i => i ≤ c.length) (fun i => c.length - i) 0 ?_ ?_ ?_
  · simp
  · simp only [List.take_zero, pgsRaw_nil]
    refine WkN.trans (wk_nil 7 1 (by omega) rfl) (WkN.trans (wk_tm ?_) (wk_mv (by simp))); simp only [List.set_cons_succ, List.set_cons_zero, List.length_nil, List.length_cons]; repeat (first | exact WL.nil | (with_reducible refine WL.any _ _ _ ?_) | (with_reducible refine WL.same _ _ _ ?_) | (refine WL.eq _ _ _ _ rfl ?_))
  · rintro i hi
    have hb : i < 4611686018427387904 := by omega
    by_cases hil : i < c.length
    · have hil' : (i : Int) < (c.length : Int) := by omega
      obtain ⟨b, hn, hbl⟩ := hcm (at' c (i : Int)) (at_mem c i hil)
      have hat : at' (c.map fun n : Nat => (n : Int)) (i : Int) = ((b + 1 : Nat) : Int) := by rw [at_mapN c i hil, hn]
      have hb3 : b < 4611686018427387904 := by omega
      have htk := take_at c i hil
      have hrl := pgsRaw_len l pred (c.take i)
      rw [List.length_take] at hrl
      have hhr := hh (at' l (b : Int))
      rcases hp : pred (at' l (b : Int)) with _ | _
      · have e : pgsRaw l pred (c.take (i + 1)) = pgsRaw l pred (c.take i) := by
          rw [← htk, pgsRaw_app, hn]
          simp [pgsRaw, hp]
        rw [hp] at hhr
        clear hn htk
        simp -implicitDefEqProofs only [go_sem, hil', hb, hat, hb3]
        (repeat' (first | ((with_reducible first | refine gon ?_ ?_ | refine gos ?_ ?_ | refine cdn ?_ ?_ | refine cds ?_ ?_ | refine gpn ?_ ?_ | refine gps ?_ ?_) <;> intro h <;> (try simp only [dt, df, gi, gt] at h) <;> try simp -implicitDefEqProofs only [go_sem, *]) | ((with_reducible refine And.intro ?_ ?_); (· first | omega | (simp only [List.length_take]; omega)); try simp -implicitDefEqProofs only [go_sem, *]) | ((with_reducible refine enter_pu (hhr) ?_ ?_ ?_); (· rfl); (· rfl); try simp -implicitDefEqProofs only [go_sem, *])))
        refine ⟨i + 1, by omega, by omega, ?_⟩
        rw [e]
        refine WkN.trans (wk_tm ?_) (wk_trunc (S := [some ⟨1, _⟩]) (Nat.le_refl _) rfl (by first | rfl | (simp only [sltB, List.all_cons, List.all_nil, slt_p, slt_I, slt_r, Bool.and_true]; done) | (simp only [sltB, List.all_cons, List.all_nil, slt_p, slt_I, slt_r, Bool.and_true]; rfl))); repeat (first | exact WL.nil | (with_reducible refine WL.any _ _ _ ?_) | (with_reducible refine WL.same _ _ _ ?_) | (refine WL.eq _ _ _ _ rfl ?_))
      · have e : pgsRaw l pred (c.take (i + 1)) = pgsRaw l pred (c.take i) ++ [(at' l (b : Int)).page] := by
          rw [← htk, pgsRaw_app, hn]
          simp [pgsRaw, hp]
        rw [hp] at hhr
        clear hn htk
        simp -implicitDefEqProofs only [go_sem, hil', hb, hat, hb3]
        (repeat' (first | ((with_reducible first | refine gon ?_ ?_ | refine gos ?_ ?_ | refine cdn ?_ ?_ | refine cds ?_ ?_ | refine gpn ?_ ?_ | refine gps ?_ ?_) <;> intro h <;> (try simp only [dt, df, gi, gt] at h) <;> try simp -implicitDefEqProofs only [go_sem, *]) | ((with_reducible refine And.intro ?_ ?_); (· first | omega | (simp only [List.length_take]; omega)); try simp -implicitDefEqProofs only [go_sem, *]) | ((with_reducible refine enter_pu (hhr) ?_ ?_ ?_); (· rfl); (· rfl); try simp -implicitDefEqProofs only [go_sem, *])))
        refine ⟨i + 1, by omega, by omega, ?_⟩
        rw [e]
        simp only [List.length_append, List.length_cons, List.length_nil]
        refine WkN.trans (WkN.trans (wk_tm ?_) (wk_trunc (S := [some ⟨1, _⟩]) (Nat.le_refl _) rfl (by first | rfl | (simp only [sltB, List.all_cons, List.all_nil, slt_p, slt_I, slt_r, Bool.and_true]; done) | (simp only [sltB, List.all_cons, List.all_nil, slt_p, slt_I, slt_r, Bool.and_true]; rfl)))) (wk_mv (by simp)); repeat (first | exact WL.nil | (with_reducible refine WL.any _ _ _ ?_) | (with_reducible refine WL.same _ _ _ ?_) | (refine WL.eq _ _ _ _ rfl ?_))
    · have hil' : ¬ (i : Int) < (c.length : Int) := by omega
      obtain rfl : i = c.length := by omega
      rw [List.take_length]
      have hrl := pgsRaw_len l pred c
      have hso := Sort_own (pgsRaw l pred c) (by omega)
      have hco := Compact_own (sorted (pgsRaw l pred c)) (by rw [sorted_len]; omega) (once_len _) once_pos
      rw [sorted_len] at hco
      simp -implicitDefEqProofs only [go_sem, hil']
      (repeat' (first | ((with_reducible first | refine gon ?_ ?_ | refine gos ?_ ?_ | refine cdn ?_ ?_ | refine cds ?_ ?_ | refine gpn ?_ ?_ | refine gps ?_ ?_) <;> intro h <;> (try simp only [dt, df, gi, gt] at h) <;> try simp -implicitDefEqProofs only [go_sem, *]) | ((with_reducible refine And.intro ?_ ?_); (· first | omega | (simp only [List.length_take]; omega)); try simp -implicitDefEqProofs only [go_sem, *]) | fail))
      refine enter_keep hso ?_
      rintro r S' ⟨rfl, rfl⟩
      simp -implicitDefEqProofs only [go_sem, true_and]
      refine enter_keep hco ?_
      rintro r S' ⟨rfl, rfl⟩
      simp -implicitDefEqProofs only [go_sem, true_and]
      refine enter_keep (Clip_own _ _ ?_) ?_
      · have := once_len (sorted (pgsRaw l pred c))
        rw [sorted_len] at this
        omega
      rintro r S' ⟨rfl, rfl⟩
      simp -implicitDefEqProofs only [go_sem, true_and]
      exact fin_1 (argT0 (arg0_pre _ _))
def pagesC (hl : LastC) : PagesC := ⟨pgsOf, mem_pgsOf, pgsOf_len, fun l tx h pred hw hh => pagesOf_fn hl l tx h pred hw hh⟩
end Go.Proofs.YtjdebcankncfaabGreat.Am
end
section
set_option linter.unusedVariables false
set_option linter.unusedSimpArgs false
set_option maxRecDepth 100000
set_option maxHeartbeats 8000000
namespace Go.Proofs.YtjdebcankncfaabGreat.Am
open Go Go.RowKit Go.Proofs
attribute [local congr] opsP_congr codeP_congr AWP_congr afterR_congr preP_congr afterPre_congr gPre_congr gOps_congr condP_congr stepE_congr
attribute [local go_sem] ty_int ty_bool ty_str ty_u8 ty_ints ty_bytes ty_page ty_pages ty_lpage ty_lpages ty_rec ty_recs ty_lrec ty_lrecs ty_eng ty_leng
attribute [local go_sem] true_and and_true beq_true' beq_false' toNat_cast Int.natCast_nonneg Bool.not_not Bool.not_true Bool.not_false decide_true decide_false Bool.or_false Bool.false_or Bool.or_true Bool.true_or Bool.and_false Bool.false_and Nat.zero_add Int.toNat_of_nonneg wrap_succ wrap_m1 wrap_nat succ_m1 cast0 succ_pos' succ_ne' succ_bne' ge_iff_le gt_iff_lt if_true if_false
theorem lastC : LastC := fun l tx h => last_c l tx h
theorem lastOfC : LastOfC := fun l page h => lastOf_c l page h
theorem recC : RecC := RecOkI_fn
theorem sameInts_refl (a : List Int) : sameInts a a = true := by
  unfold sameInts
  simp [allFrom_iff]
theorem sameP_refl (p : Pg) : sameP p p = true := by simp [sameP, sameInts_refl]
theorem sameR_refl (r : Rc) : sameR r r = true := by simp [sameR]
theorem sameE_refl (e : Eng) : sameE e e = true := by
  unfold sameE samePs sameRs
  simp [allFrom_iff, sameP_refl, sameR_refl]
end Go.Proofs.YtjdebcankncfaabGreat.Am
end
section
set_option linter.unusedVariables false
set_option linter.unusedSimpArgs false
set_option maxRecDepth 100000
namespace Go.Proofs.YtjdebcankncfaabGreat.Am
open Go Go.RowKit Go.Proofs Go.ChangeShapes
theorem mapM_get {α β : Type} {f : α → Option β} : ∀ {xs : List α} {ys : List β}, xs.mapM f = some ys → ys.length = xs.length ∧ ∀ (i : Nat) (x : α), xs[i]? = some x → ∃ y, ys[i]? = some y ∧ f x = some y
  | [], ys, h => by simp at h; subst h; simp
  | x :: xs, ys, h => by
    simp only [List.mapM_cons, Option.bind_eq_bind, Option.bind_eq_some_iff, Option.pure_def, Option.some.injEq] at h
    obtain ⟨y, hy, ys', hys, rfl⟩ := h
    obtain ⟨h1, h2⟩ := mapM_get hys
    refine ⟨by simp [h1], ?_⟩
    rintro (_ | i) x' hx
    · simp at hx; subst hx; exact ⟨y, rfl, hy⟩
    · exact h2 i x' (by simpa using hx)
def IR (n : Int) : Prop := -9223372036854775808 ≤ n ∧ n < 9223372036854775808
section
variable {H : Type} {enc : TypeId × Value → H} {w : World} {μ : Nat → Nat}
/-- Every block may be read. -/
abbrev okT : Nat → Prop := fun _ => True
abbrev OkD (μ : Nat → Nat) : Nat → Prop := fun b => okT b ∧ ¬ liveB [] μ b
theorem okD (μ : Nat → Nat) (b : Nat) : OkD μ b := ⟨trivial, by rintro ⟨i, o, hi, _⟩; simp at hi⟩
/-- What is read at a type are the cells of a datum of ours; 'Q' if what is read is small. -/
def Opens (enc : TypeId × Value → H) (w : World) (μ : Nat → Nat) {α : Type} (e : TypeId) (z : Nat) (f : α → D) (Q : α → Prop) : Prop :=
  ∀ (fuel : Nat) (cs : List Value) (d : DataW H) (ps : List MemPlace), DataW.trod enc Tryz.prog w 0 (fun _ => true) true fuel e cs = some (d, ps) →
    ∃ a : α, cs.length = z ∧ (∀ (j : Nat) (y : D), (f a).cells[j]? = some y → ∃ u, cs[j]? = some u ∧ RepD w (OkD μ) y u) ∧ ((d.weights Tryz.prog e).all (· ≤ reachBytes) = true → Q a)
theorem cells?_get {ad : Addr} {n : Nat} {cs : List Value} (h : w.cells? 0 ad n = some cs) : cs.length = n ∧ ∀ j, j < n → ∃ v, cs[j]? = some v ∧ w.cell? (ad.add j) = some v := by
  unfold World.cells? at h
  rw [if_pos (Nat.zero_le _)] at h
  obtain ⟨h1, h2⟩ := mapM_get h
  rw [List.length_range] at h1
  exact ⟨h1, fun j hj => h2 j j (by simp [hj])⟩
theorem weightsAll_get {e : TypeId} : ∀ {ds : List (DataW H)} {i : Nat} {d : DataW H}, ds[i]? = some d → (DataW.weightsAll Tryz.prog e ds).all (· ≤ reachBytes) = true → (d.weights Tryz.prog e).all (· ≤ reachBytes) = true
  | d0 :: ds, 0, d, hi, h => by
    simp at hi; subst hi
    simp only [DataW.weightsAll, List.all_append, Bool.and_eq_true] at h
    exact h.1
  | d0 :: ds, i + 1, d, hi, h => by
    simp only [DataW.weightsAll, List.all_append, Bool.and_eq_true] at h
    exact weightsAll_get (by simpa using hi) h.2
  | [], i, d, hi, h => by simp at hi
theorem opens_sl {α : Type} {e t : TypeId} {z : Nat} {f : α → D} {Q : α → Prop} (he : Opens enc w μ e z f Q) (hu : Tryz.prog.underlying t = some (.slice e)) (hc : Tryz.prog.cellsOf e = z) (hz : 0 < z) (hby : 1 ≤ Tryz.prog.bytesOf e)
    (hf : ∀ a, (f a).cells.length = z ∧ ∀ y ∈ (f a).cells, y.scalar = true) : Opens enc w μ t 1 (fun l : List α => .sl z (l.map f)) (fun l => l.length < 4611686018427387904 ∧ ∀ a ∈ l, Q a) := by
  intro fuel cs d ps h
  cases fuel with
  | zero => simp [DataW.trod] at h
  | succ fuel =>
    unfold DataW.trod at h
    rw [hu] at h
    rcases cs with _ | ⟨v, _ | ⟨u, cs⟩⟩
    · simp at h
    · cases v <;> simp only [reduceCtorEq] at h
      rename_i A len cap
      have key : ∀ (l : List α) (v : Value), RepD w (OkD μ) (.sl z (l.map f)) v → ∀ (j : Nat) (y : D), (D.sl z (l.map f)).cells[j]? = some y → ∃ u, [v][j]? = some u ∧ RepD w (OkD μ) y u := by
        rintro l v hr (_ | j) y hy
        · simp [D.cells] at hy; subst hy; exact ⟨_, rfl, hr⟩
        · simp [D.cells] at hy
      have hzz : ∀ (l : List α) (i : Nat) (x : D), (l.map f)[i]? = some x → x.cells.length = z ∧ ∀ y ∈ x.cells, y.scalar = true := by
        intro l i x hx
        rw [List.getElem?_map] at hx
        obtain ⟨a, -, rfl⟩ := Option.map_eq_some_iff.1 hx
        exact hf a
      rcases A with _ | ad
      · rcases len with _ | len
        · rcases cap with _ | cap
          · exact ⟨[], rfl, key [] _ (.sl z [] 0 _ 0 default (fun _ _ => undef) rfl (Nat.le_refl _) (fun h => absurd rfl h) hz (hzz []) (fun i x j y hi _ => by simp at hi) (fun i x j y hi _ => by simp at hi)), fun _ => ⟨by simp, by simp⟩⟩
          · simp at h
        · simp at h
      · simp only [hc] at h
        split at h
        · rename_i hle
          obtain ⟨-, hle, -⟩ := hle
          simp only [if_true, Option.bind_eq_some_iff, Option.map_eq_some_iff, Prod.mk.injEq] at h
          obtain ⟨elems, hel, rest, hrest, rfl, -⟩ := h
          obtain ⟨n1, g1⟩ := mapM_get hel
          obtain ⟨n2, g2⟩ := mapM_get hrest
          rw [List.length_range] at n1 n2
          have g : ∀ i : _root_.Fin len, ∃ (p : α × List Value), (∃ x, elems[i.1]? = some x ∧ ((x.1.weights Tryz.prog e).all (· ≤ reachBytes) = true → Q p.1)) ∧ w.cells? 0 (ad.add (i.1 * z)) z = some p.2 ∧ (∀ (j : Nat) (y : D), (f p.1).cells[j]? = some y → ∃ u, p.2[j]? = some u ∧ RepD w (OkD μ) y u) := by
            intro i
            obtain ⟨x, hx, hy⟩ := g1 i.1 i.1 (by simp [i.2])
            obtain ⟨cs, hcs, hh⟩ := Option.bind_eq_some_iff.1 hy
            obtain ⟨a, -, h2, h3⟩ := he fuel cs x.1 x.2 hh
            exact ⟨(a, cs), ⟨x, hx, h3⟩, hcs, h2⟩
          obtain ⟨F, hF⟩ := Classical.axiomOfChoice g
          obtain ⟨a, ea⟩ : ∃ a : _root_.Fin len → α, ∀ i, a i = (F i).1 := ⟨_, fun i => rfl⟩
          obtain ⟨cs, ec⟩ : ∃ cs : _root_.Fin len → List Value, ∀ i, cs i = (F i).2 := ⟨_, fun i => rfl⟩
          simp only [← ea, ← ec] at hF
          clear g
          have hgi : ∀ (i : Nat) (x : D), ((List.ofFn a).map f)[i]? = some x → ∃ hi : i < len, x = f (a ⟨i, hi⟩) := by
            intro i x hx
            rw [List.getElem?_map] at hx
            obtain ⟨b, hb, rfl⟩ := Option.map_eq_some_iff.1 hx
            have hlt : i < len := by simpa using (List.getElem?_eq_some_iff.1 hb).1
            refine ⟨hlt, ?_⟩
            rw [List.getElem?_eq_getElem (by simpa using hlt)] at hb
            simp at hb
            rw [hb]
          have hcc : ∀ (i : Nat) (x : D) (j : Nat) (y : D), ((List.ofFn a).map f)[i]? = some x → x.cells[j]? = some y → ∃ (hi : i < len) (u : Value), (cs ⟨i, hi⟩)[j]? = some u ∧ w.cell? ((ad.add (i * z)).add j) = some u ∧ RepD w (OkD μ) y u := by
            intro i x j y hx hy
            obtain ⟨hi, rfl⟩ := hgi i x hx
            obtain ⟨u, hu1, hu2⟩ := (hF ⟨i, hi⟩).2.2 j y hy
            obtain ⟨k1, k2⟩ := cells?_get (hF ⟨i, hi⟩).2.1
            have hj : j < z := by rw [← k1]; exact (List.getElem?_eq_some_iff.1 hu1).1
            obtain ⟨u', hu', hcell⟩ := k2 j hj
            rw [hu1] at hu'
            cases hu'
            exact ⟨hi, u, hu1, hcell, hu2⟩
          have hsp : 0 < len → ad.spot = none := by
            intro h0
            obtain ⟨y, hy⟩ : ∃ y, (f (a ⟨0, h0⟩)).cells[0]? = some y := ⟨_, List.getElem?_eq_getElem (by rw [(hf _).1]; exact hz)⟩
            obtain ⟨_, u, -, hcell, -⟩ := hcc 0 (f (a ⟨0, h0⟩)) 0 y (by simp [h0]) hy
            simpa [Addr.add] using World.cell?_spot hcell
          refine ⟨List.ofFn a, rfl, key _ _ (.sl z _ len _ cap ad (fun i j => ((if hi : i < len then cs ⟨i, hi⟩ else [])[j]?).getD undef) (by simp) (by simp; omega) ?_ hz (hzz _) ?_ ?_), ?_⟩
          · intro hne
            refine ⟨rfl, okD μ _, ?_⟩
            have h0 : 0 < len := by
              rcases Nat.eq_zero_or_pos len with h0 | h0
              · subst h0; simp at hne
              · exact h0
            exact hsp h0
          · intro i x j y hx hy
            obtain ⟨hi, u, h1, h2, -⟩ := hcc i x j y hx hy
            rw [add_add _ _ _ (hsp (by omega))] at h2
            rw [h2]
            simp [hi, h1]
          · intro i x j y hx hy
            obtain ⟨hi, u, h1, h2, h3⟩ := hcc i x j y hx hy
            simpa [hi, h1] using h3
          · intro hw
            simp only [DataW.weights, hu, List.all_cons, List.all_append, Bool.and_eq_true, decide_eq_true_eq, List.length_map] at hw
            obtain ⟨w1, w2, -⟩ := hw
            have hr : reachBytes < 2 ^ 47 := reachBytes_lt
            have hll : (elems.length + rest.length) * 1 ≤ reachBytes := Nat.le_trans (Nat.mul_le_mul_left _ hby) w1
            refine ⟨by simp; omega, ?_⟩
            intro b hb
            obtain ⟨i, rfl⟩ := List.mem_ofFn.1 hb
            obtain ⟨x, hx, hq⟩ := (hF i).1
            exact hq (weightsAll_get (ds := elems.map (·.1)) (i := i.1) (by simp [hx]) w2)
        · cases h
    · simp at h
structure Rc.small (r : Rc) : Prop where
  kind : IR r.kind
  tx : IR r.tx
  page : IR r.page
  slot : IR r.slot
  old : IR r.old
  new : IR r.new
  prev : IR r.prev
  next : IR r.next
structure Pg.small (p : Pg) : Prop where
  lsn : IR p.lsn
  owner : IR p.owner
  len : p.vals.length < 4611686018427387904
  vals : ∀ a ∈ p.vals, IR a
/-- What an engine that is read is like. -/
structure Eng.rd (e : Eng) : Prop where
  disk : e.disk.length < 4611686018427387904
  mem : e.mem.length < 4611686018427387904
  log : e.log.length < 4611686018427387904
  dp : ∀ p ∈ e.disk, p.small
  mp : ∀ p ∈ e.mem, p.small
  lr : ∀ r ∈ e.log, r.small
  safe : IR e.safe
end
end Go.Proofs.YtjdebcankncfaabGreat.Am
end
section
set_option linter.unusedVariables false
set_option linter.unusedSimpArgs false
set_option maxRecDepth 100000
set_option linter.constructorNameAsVariable false
namespace Go.Proofs.YtjdebcankncfaabGreat.Am
open Go Go.RowKit Go.Proofs Go.ChangeShapes Go.WideShapes
/-- A law over data: it returns true, and below the heap nothing has turned. -/
theorem calls_of_law {f : FuncId} {args : List AV} (h : Fn1 Tryz.prog f args (Bo true)) (w : World) (vs : Array Value) (hl : vs.size = args.length) (hr : ∀ (j : Nat) (x : AV), args[j]? = some x → Rep okT w (fun i => i) [] x (vs.getD j undef)) :
    Calls Tryz.prog f vs w fun e w' => e = .returned (.bool true) ∧ Below w.heap.size w w' := by
  refine (h.2 okT (fun i => i) w vs (fun _ _ => trivial) ⟨by simp, by simp, by simp⟩ hl hr).mono ?_
  rintro e w' ⟨r', v, S', mv, μ', rfl, ⟨⟨rfl, rfl⟩, rfl⟩, hrs, hrep, hmod, _⟩
  cases hrep
  exact ⟨rfl, hmod.os, hmod.tape, hmod.output, hmod.size, fun k hk => hmod.keep k hk (by rintro ⟨i, o, hi, _⟩; simp at hi)⟩
theorem laidOut : laidOutB Tryz.prog = true := by kernel_rfl
theorem ownK : ownKnob Tryz.prog.godebug = none := by kernel_rfl
end Go.Proofs.YtjdebcankncfaabGreat.Am
end
section
set_option linter.unusedVariables false
set_option linter.unusedSimpArgs false
set_option maxRecDepth 100000
set_option maxHeartbeats 8000000
namespace Go.Proofs.YtjdebcankncfaabGreat.Am
open Go Go.RowKit Go.Proofs
attribute [local go_sem_proc] Nat.reduceAdd Nat.reduceSub Nat.reduceMul Nat.reduceLT Nat.reduceLeDiff Nat.reduceEqDiff Int.reduceBEq Int.reduceBNe Int.reduceNeg Int.reduceSub Int.reduceLE Int.reduceLT
attribute [local go_sem_proc ↓] reduceIte
attribute [local congr] opsP_congr codeP_congr AWP_congr afterR_congr preP_congr afterPre_congr gPre_congr gOps_congr condP_congr stepE_congr
attribute [local go_sem] ty_int ty_bool ty_str ty_u8 ty_ints ty_bytes ty_page ty_pages ty_lpage ty_lpages ty_rec ty_recs ty_lrec ty_lrecs ty_eng ty_leng
attribute [local go_sem] true_and and_true beq_true' beq_false' toNat_cast Int.natCast_nonneg Bool.not_not Bool.not_true Bool.not_false decide_true decide_false Bool.or_false Bool.false_or Bool.or_true Bool.true_or Bool.and_false Bool.false_and Nat.zero_add Int.toNat_of_nonneg wrap_succ wrap_m1 wrap_nat succ_m1 cast0 succ_pos' succ_ne' succ_bne' ge_iff_le gt_iff_lt if_true if_false
section
theorem ty_rd : tiOf Tryz.prog 85 = some ⟨true, [.slice none 0 0, .int .i64 0], 32, .struct [0, 1]⟩ := by kernel_rfl
theorem ty_ev : tiOf Tryz.prog 120 = some ⟨true, [.int .i64 0, .int .i64 0, .int .i64 0, .int .i64 0, .int .i64 0, .slice none 0 0], 64, .struct [0, 1, 2, 3, 4, 5]⟩ := by kernel_rfl
attribute [local go_sem] ty_rd
def bD (n : Int) : D := .prim (.int .u8 n)
abbrev bts (l : List Int) : AV := .sl 1 (l.map bD)
@[go_sem] theorem bD_av0 (n : Int) : (bD n).av0 = .prim (.int .u8 n) := rfl
@[go_sem] theorem bD_cells (n : Int) : (bD n).cells = [bD n] := rfl
def Byt (l : List Int) : Prop := ∀ k : Nat, k < l.length → 0 ≤ at' l (k : Int) ∧ at' l (k : Int) < 256
/-- A reader: an object with a code, and where it is. -/
abbrev oR (l : List Int) (p : Nat) : Option AObj := some ⟨2, [.agg [bts l, I (p : Int)]]⟩
theorem tmod_nat (a b : Nat) : ((a : Int)).tmod (b : Int) = ((a % b : Nat) : Int) := by rw [Int.ofNat_tmod]
theorem tdiv_nat (a b : Nat) : ((a : Int)).tdiv (b : Int) = ((a / b : Nat) : Int) := by rw [Int.ofNat_tdiv]
theorem xor_small {a b : Int} (ha : 0 ≤ a ∧ a < 4611686018427387904) (hb : 0 ≤ b ∧ b < 4611686018427387904) :
    0 ≤ IntKind.i64.wrap ((BitVec.ofInt 64 a ^^^ BitVec.ofInt 64 b).toNat : Int) := by
  obtain ⟨m, rfl⟩ : ∃ m : Nat, a = (m : Int) := ⟨a.toNat, by omega⟩
  obtain ⟨n, rfl⟩ : ∃ n : Nat, b = (n : Int) := ⟨b.toNat, by omega⟩
  have h1 : (BitVec.ofInt 64 (m : Int)).toNat = m := by simp; omega
  have h2 : (BitVec.ofInt 64 (n : Int)).toNat = n := by simp; omega
  have h3 : (BitVec.ofInt 64 (m : Int) ^^^ BitVec.ofInt 64 (n : Int)).toNat < 2 ^ 62 := by
    rw [BitVec.toNat_xor, h1, h2]
    exact Nat.xor_lt_two_pow (by omega) (by omega)
  rw [wrap_ok (by omega) (by omega)]
  omega
theorem tmod_bnd {a n : Int} (ha : 0 ≤ a) (hn : 1 ≤ n) : 0 ≤ a.tmod n ∧ a.tmod n < n := by
  rw [Int.tmod_eq_emod_of_nonneg ha]
  exact ⟨Int.emod_nonneg _ (by omega), Int.emod_lt_of_pos _ (by omega)⟩
def PickJ (n : Int) (k : Int) : Prop := 0 ≤ k ∧ k < n
theorem pick_c (l : List Int) (p : Nat) (n : Int) (hb : Byt l) (hl : l.length ≤ 2000) (hp : p < 1099511627776) (hn : 1 ≤ n) :
    AFnX Tryz.prog 21 [.ref 0 2 0 0, I n] [oR l p] (PickJ n) (fun k => I k) (fun _ => [oR l (p + 1)]) [] := by
  have hp62 : p < 4611686018427387904 := by omega
  have hn1 : ¬ n < 1 := by omega
  have hn0 : n ≠ 0 := by omega
  refine afnx_of Tryz.func21 rfl rfl ?_
  by_cases h0 : l.length = 0
  · have h0' : ((l.length : Int) == 0) = true := by simp [h0]
    simp -implicitDefEqProofs only [go_sem, Tryz.f21, h0']
    (repeat' (first | ((with_reducible first | refine gon ?_ ?_ | refine gos ?_ ?_ | refine cdn ?_ ?_ | refine cds ?_ ?_ | refine gpn ?_ ?_ | refine gps ?_ ?_) <;> intro h <;> (try simp only [dt, df, gi, gt] at h) <;> try simp -implicitDefEqProofs only [go_sem, *]) | ((with_reducible refine And.intro ?_ ?_); (· first | omega | (simp only [List.length_take]; omega)); try simp -implicitDefEqProofs only [go_sem, *]) | fail))
    all_goals first | exact absurd h hn1 | exact fin_same ⟨0, ⟨by omega, by omega⟩, rfl, rfl, rfl⟩
  have h0' : ((l.length : Int) == 0) = false := by rw [beq_eq_false_iff_ne]; omega
  by_cases hpl : p < l.length
  · have hbp := hb p hpl
    have hpl' : (p : Int) < (l.length : Int) := by omega
    have hwb : IntKind.i64.wrap (at' l (p : Int)) = at' l (p : Int) := wrap_ok (by omega) (by omega)
    simp -implicitDefEqProofs only [go_sem, Tryz.f21, h0', hpl']
    (repeat' (first | ((with_reducible first | refine gon ?_ ?_ | refine gos ?_ ?_ | refine cdn ?_ ?_ | refine cds ?_ ?_ | refine gpn ?_ ?_ | refine gps ?_ ?_) <;> intro h <;> (try simp only [dt, df, gi, gt] at h) <;> try simp -implicitDefEqProofs only [go_sem, *]) | ((with_reducible refine And.intro ?_ ?_); (· first | omega | (simp only [List.length_take]; omega)); try simp -implicitDefEqProofs only [go_sem, *]) | fail))
    all_goals first | exact absurd h hn1 | exact fin_same ⟨_, tmod_bnd hbp.1 hn, rfl, rfl, rfl⟩
  · have hpl' : ¬ (p : Int) < (l.length : Int) := by omega
    have hm1 := tmod_nat p l.length
    have hm2 := tmod_nat (p * 7 + 3) l.length
    have hd1 := tdiv_nat p l.length
    have hl1 : p % l.length < l.length := Nat.mod_lt _ (by omega)
    have hl2 : (p * 7 + 3) % l.length < l.length := Nat.mod_lt _ (by omega)
    have hq : p / l.length ≤ p := Nat.div_le_self _ _
    have b1 := hb _ hl1
    have b2 := hb _ hl2
    generalize hA : at' l ((p % l.length : Nat) : Int) = A at b1
    generalize hB : at' l (((p * 7 + 3) % l.length : Nat) : Int) = B at b2
    generalize hQ : p / l.length = Q at hd1 hq
    have w1 : IntKind.i64.wrap A = A := wrap_ok (by omega) (by omega)
    have w2 : IntKind.i64.wrap B = B := wrap_ok (by omega) (by omega)
    have w3 : IntKind.i64.wrap (A * 131) = A * 131 := wrap_ok (by omega) (by omega)
    have w4 : IntKind.i64.wrap (B * 1117) = B * 1117 := wrap_ok (by omega) (by omega)
    have w5 : IntKind.i64.wrap ((p : Int) * 7) = ((p * 7 : Nat) : Int) := by rw [wrap_ok (by omega) (by omega)]; omega
    have w6 : IntKind.i64.wrap (((p * 7 : Nat) : Int) + 3) = ((p * 7 + 3 : Nat) : Int) := by rw [wrap_ok (by omega) (by omega)]; omega
    have w7 : IntKind.i64.wrap (A * 131 + B * 1117) = A * 131 + B * 1117 := wrap_ok (by omega) (by omega)
    have w8 : IntKind.i64.wrap ((p : Int) * 29) = (p : Int) * 29 := wrap_ok (by omega) (by omega)
    have w9 : IntKind.i64.wrap (A * 131 + B * 1117 + (p : Int) * 29) = A * 131 + B * 1117 + (p : Int) * 29 := wrap_ok (by omega) (by omega)
    have w10 : IntKind.i64.wrap ((Q : Int)) = (Q : Int) := wrap_ok (by omega) (by omega)
    have w11 : IntKind.i64.wrap ((Q : Int) * 53) = (Q : Int) * 53 := wrap_ok (by omega) (by omega)
    have w12 : IntKind.i64.wrap (A * 131 + B * 1117 + (p : Int) * 29 + (Q : Int) * 53) = A * 131 + B * 1117 + (p : Int) * 29 + (Q : Int) * 53 := wrap_ok (by omega) (by omega)
    have hX : 0 ≤ A * 131 + B * 1117 + (p : Int) * 29 + (Q : Int) * 53 ∧ A * 131 + B * 1117 + (p : Int) * 29 + (Q : Int) * 53 < 4611686018427387904 := by omega
    have hln : ¬ ((l.length : Int) = 0) := by omega
    simp -implicitDefEqProofs only [go_sem, Tryz.f21, h0', hpl']
    (repeat' (first | ((with_reducible first | refine gon ?_ ?_ | refine gos ?_ ?_ | refine cdn ?_ ?_ | refine cds ?_ ?_ | refine gpn ?_ ?_ | refine gps ?_ ?_) <;> intro h <;> (try simp only [dt, df, gi, gt] at h) <;> try simp -implicitDefEqProofs only [go_sem, *]) | ((with_reducible refine And.intro ?_ ?_); (· first | omega | (simp only [List.length_take]; omega)); try simp -implicitDefEqProofs only [go_sem, *]) | first | ((with_reducible refine cp_draw (id := 7) 45 mixed ?_ ?_ ?_); (· decide +kernel); (· first | (simp only [List.all_cons, List.all_nil, List.length_cons, List.length_nil, Nat.reduceAdd, Nat.reduceLT, decide_true, Bool.and_true, Bool.and_self]; done) | rfl); try simp -implicitDefEqProofs only [go_sem, *])))
    all_goals first | exact absurd h hn1 | skip
    generalize A * 131 + B * 1117 + (p : Int) * 29 + (Q : Int) * 53 = X at hX
    have hd : X.tdiv 64 = X / 64 := Int.tdiv_eq_ediv_of_nonneg hX.1
    exact fin_same ⟨_, tmod_bnd (xor_small hX (by rw [hd, wrap_ok (by omega) (by omega)]; omega)) hn, rfl, rfl, rfl⟩
end
section
attribute [local go_sem] slt_r slt_I slt_p
theorem hm2c {mv : List Nat} (m0 : mv.contains 0 = false) (m1 : mv.contains 1 = false) : ∀ i, i < 2 → ([] : List Nat).contains i = false → [0, 1][i]? = some i ∧ mv.contains i = false := by
  intro i hi _
  have hi2 : i = 0 ∨ i = 1 := by omega
  rcases hi2 with rfl | rfl
  · exact ⟨rfl, m0⟩
  · exact ⟨rfl, m1⟩
theorem l11Write_c (e : Eng) (p : Nat) (hp : p < 5) (hd : Sz e.disk) (hm : Sz e.mem) : AFn1 Tryz.prog 136 [eX 0 1 e, I p] (sO e) (eX 0 1 (e.write p)) (sO (e.write p)) [] := by
  have hd5 := hd.len
  have hm5 := hm.len
  have hb : p < 4611686018427387904 := by omega
  have hsz := hm.sz p hp
  have h5 : (p : Int) < 5 := by omega
  refine afn1_of Tryz.func136 rfl rfl ?_
  simp -implicitDefEqProofs only [go_sem, Tryz.f136]
  (repeat' (first | ((with_reducible first | refine gon ?_ ?_ | refine gos ?_ ?_ | refine cdn ?_ ?_ | refine cds ?_ ?_ | refine gpn ?_ ?_ | refine gps ?_ ?_) <;> intro h <;> (try simp only [dt, df, gi, gt] at h) <;> try simp -implicitDefEqProofs only [go_sem, *]) | ((with_reducible refine And.intro ?_ ?_); (· first | omega | (simp only [List.length_take]; omega)); try simp -implicitDefEqProofs only [go_sem, *]) | first | ((with_reducible refine cp_draw (id := 1) 9 mixed ?_ ?_ ?_); (· decide +kernel); (· first | (simp only [List.all_cons, List.all_nil, List.length_cons, List.length_nil, Nat.reduceAdd, Nat.reduceLT, decide_true, Bool.and_true, Bool.and_self]; done) | rfl); try simp -implicitDefEqProofs only [go_sem, *]) | ((with_reducible refine cp_draw (id := 2) 10 mixed ?_ ?_ ?_); (· decide +kernel); (· first | (simp only [List.all_cons, List.all_nil, List.length_cons, List.length_nil, Nat.reduceAdd, Nat.reduceLT, decide_true, Bool.and_true, Bool.and_self]; done) | rfl); try simp -implicitDefEqProofs only [go_sem, *]) | ((with_reducible refine pre_enter _ (det_pu (l1Copy_fn _ ?_) ?_ ?_) ?_ ?_); (· (first | assumption | omega | (simp; omega))); (· rfl); (· rfl); (· rfl); try simp -implicitDefEqProofs only [go_sem, *])))
  exact fin_move [0, 1] [] (by simp) rfl (by decide) (keep2 rfl rfl (a2_p _ _) (a2_p _ _)) (hm2 rfl) (rnT_eX (e := e.write p) rfl rfl) ⟨rfl, rfl, rfl⟩
theorem CopyPages5 (ps : List Pg) (h : Sz ps) : Fn Tryz.prog 70 [pgs ps] (fun r S => r = .own 0 3 0 5 ∧ S = [some ⟨3, ps.map pA⟩]) := by
  have hp5 := h.len
  have hcp := l11CopyPages_own ps (by omega) (fun p hm => by obtain ⟨k, hk, rfl⟩ := mem_at hm; rw [h.sz k (by omega)]; omega)
  rw [hp5] at hcp
  exact hcp
theorem l11Copy_c (e : Eng) (hd : Sz e.disk) (hm : Sz e.mem) (hl : e.log.length < 1000000) : Fn Tryz.prog 24 [eA e] (fun r S => r = eX 0 1 e ∧ S = sO e) := by
  refine fn_of Tryz.func24 rfl rfl ?_
  simp -implicitDefEqProofs only [go_sem, Tryz.f24]
  (repeat' (first | ((with_reducible first | refine gon ?_ ?_ | refine gos ?_ ?_ | refine cdn ?_ ?_ | refine cds ?_ ?_ | refine gpn ?_ ?_ | refine gps ?_ ?_) <;> intro h <;> (try simp only [dt, df, gi, gt] at h) <;> try simp -implicitDefEqProofs only [go_sem, *]) | ((with_reducible refine And.intro ?_ ?_); (· first | omega | (simp only [List.length_take]; omega)); try simp -implicitDefEqProofs only [go_sem, *]) | first | ((with_reducible refine cp_draw2 (id := 1) 14 2 mixed ?_ ?_ ?_ ?_); (· decide +kernel); (· first | (simp only [List.all_cons, List.all_nil, List.length_cons, List.length_nil, Nat.reduceAdd, Nat.reduceLT, decide_true, Bool.and_true, Bool.and_self]; done) | rfl); (· rfl); try simp -implicitDefEqProofs only [go_sem, List.append_nil, *]) | ((with_reducible refine pre_made (CopyPages5 e.disk hd) ?_ ?_ ?_ ?_ ?_ ?_); (· rfl); (· intro n; simp only [go_sem, List.map_cons, List.map_nil, Nat.zero_add]); (· intro n; simp only [go_sem]); (· rfl); (· first | exact slt_I | exact slt_p | exact slt_r | rfl); try simp -implicitDefEqProofs only [go_sem, List.map_cons, List.map_nil, *]) | ((with_reducible refine pre_made (CopyPages5 e.mem hm) ?_ ?_ ?_ ?_ ?_ ?_); (· rfl); (· intro n; simp only [go_sem, List.map_cons, List.map_nil, Nat.zero_add]); (· intro n; simp only [go_sem]); (· rfl); (· first | exact slt_I | exact slt_p | exact slt_r | rfl); try simp -implicitDefEqProofs only [go_sem, List.map_cons, List.map_nil, *]) | ((with_reducible refine exp_end ?_ ?_); (· decide +kernel); try simp -implicitDefEqProofs only [go_sem, *]) | ((with_reducible refine exp_one 14 ?_ ?_); (· decide +kernel); try simp -implicitDefEqProofs only [go_sem, *]) | ((with_reducible refine exp_one 15 ?_ ?_); (· decide +kernel); try simp -implicitDefEqProofs only [go_sem, *])))
  refine fin_drop [2, 3] [] (by simp) rfl (by decide) (keep2 rfl rfl (a2_p _ _) (a2_p _ _)) (fun i hi => absurd hi (Nat.not_lt_zero _)) (.of _ _ (rd_eX (k := 5) (e := e) rfl rfl (by decide) (by decide) rfl rfl)) ⟨⟨rfl, rfl⟩, rfl⟩
theorem l12Add_c (e : Eng) (r : Rc) (hi : Inv e) (hc : e.can r) : AFn1 Tryz.prog 69 [eX 0 1 e, rA r] (sO e) (.tup [eX 0 1 (e.add r).1, Bo (e.add r).2]) (sO (e.add r).1) [] := by
  have hlen := hi.len
  have hd5 := hi.disk.len
  have hm5 := hi.mem.len
  have hlb : e.log.length < 4611686018427387904 := by omega
  obtain ⟨m, hm, hp⟩ := Rc.ok_page hc.ok
  have hp' : r.page = (m : Int) := hp
  have hsz : (at' e.mem r.page).vals.length = 3 := by rw [hp']; exact hi.mem.sz.sz m (by omega)
  have h0 : 0 ≤ r.page := by omega
  have h4 : r.page ≤ 4 := by omega
  clear hp hp' hm
  have hn : Fn1 Tryz.prog 35 [recs (e.log ++ [⟨r.kind, r.tx, r.page, r.slot, r.old, r.new, lastN e.log r.tx, r.next⟩])] (I (needTo (e.alog r) 3)) := l11Need_fn (e.alog r) (can_wf hi hc)
  have hnb := needTo_le (e.alog r) (can_wf hi hc) 3
  have hdo := l2Do_fn (at' e.mem r.page) ⟨r.kind, r.tx, r.page, r.slot, r.old, r.new, lastN e.log r.tx, r.next⟩ ((e.log.length + 1 : Nat) : Int) hsz (Rc.ok_slot hc.ok).2
  have hl3 := l3Last_fn e.log r.tx hlb
  have hch := l2Changes_fn r.kind
  have hwr : IntKind.i64.wrap ((((e.log.length + 1 : Nat) : Int)) + (needTo (e.alog r) 3 : Int)) = ((e.log.length + 1 + needTo (e.alog r) 3 : Nat) : Int) := by rw [wrap_ok (by omega) (by omega)]; omega
  have hfd : e.fits r = decide (e.log.length + 1 + needTo (e.alog r) 3 ≤ 150) := by unfold Eng.fits; rw [alog_len]
  refine afn1_of Tryz.func69 rfl rfl ?_
  by_cases hf : e.fits r = true
  · have e1 : e.add r = (e.added r, true) := if_pos hf
    rw [e1]
    have hgt : ¬ (150 < ((e.log.length + 1 + needTo (e.alog r) 3 : Nat) : Int)) := by rw [hfd, decide_eq_true_eq] at hf; omega
    clear hfd
    simp -implicitDefEqProofs only [go_sem, Tryz.f69]
    (repeat' (first | ((with_reducible first | refine gon ?_ ?_ | refine gos ?_ ?_ | refine cdn ?_ ?_ | refine cds ?_ ?_ | refine gpn ?_ ?_ | refine gps ?_ ?_) <;> intro h <;> (try simp only [dt, df, gi, gt] at h) <;> try simp -implicitDefEqProofs only [go_sem, *]) | ((with_reducible refine And.intro ?_ ?_); (· first | omega | (simp only [List.length_take]; omega)); try simp -implicitDefEqProofs only [go_sem, *]) | first | ((with_reducible refine enter_pu (hl3) ?_ ?_ ?_); (· rfl); (· rfl); try simp -implicitDefEqProofs only [go_sem, *]) | ((with_reducible refine cp_draw2 (id := 2) 6 2 mixed ?_ ?_ ?_ ?_); (· decide +kernel); (· first | (simp only [List.all_cons, List.all_nil, List.length_cons, List.length_nil, Nat.reduceAdd, Nat.reduceLT, decide_true, Bool.and_true, Bool.and_self]; done) | rfl); (· rfl); try simp -implicitDefEqProofs only [go_sem, List.append_nil, *]) | ((with_reducible refine exp_one 6 ?_ ?_); (· decide +kernel); try simp -implicitDefEqProofs only [go_sem, *]) | ((with_reducible refine exp_one 7 ?_ ?_); (· decide +kernel); try simp -implicitDefEqProofs only [go_sem, *]) | ((with_reducible refine exp_end ?_ ?_); (· decide +kernel); try simp -implicitDefEqProofs only [go_sem, *]) | ((with_reducible refine enter_own (hn) ?_ rfl rfl ?_); (· repeat (first | exact All2.nil | (refine All2.cons _ _ _ _ ?_ ?_; (· first | exact arg_same rfl | exact arg_eX5 rfl rfl (by first | omega | (simp; omega)) (by first | omega | (simp; omega)) | exact arg_eX rfl rfl (by first | omega | (simp; omega)) (by first | omega | (simp; omega)) | exact .of1 _ _ (.of0 _ _ (arg0_r rfl (by simp))))))); try simp -implicitDefEqProofs only [go_sem, *]) | ((with_reducible refine enter_pu (hch) ?_ ?_ ?_); (· rfl); (· rfl); try simp -implicitDefEqProofs only [go_sem, *]) | ((with_reducible refine cp_draw (id := 7) 14 mixed ?_ ?_ ?_); (· decide +kernel); (· first | (simp only [List.all_cons, List.all_nil, List.length_cons, List.length_nil, Nat.reduceAdd, Nat.reduceLT, decide_true, Bool.and_true, Bool.and_self]; done) | rfl); try simp -implicitDefEqProofs only [go_sem, *]) | ((with_reducible refine pre_enter _ (det_pu (hdo) ?_ ?_) ?_ ?_); (· rfl); (· rfl); (· rfl); try simp -implicitDefEqProofs only [go_sem, *])))
    · have e2 : e.added r = ⟨e.disk, e.mem.set r.page.toNat (doP (at' e.mem r.page) ⟨r.kind, r.tx, r.page, r.slot, r.old, r.new, lastN e.log r.tx, r.next⟩ ((e.log.length + 1 : Nat) : Int)), e.alog r, e.safe, e.down⟩ := by
        unfold Eng.added Eng.amem
        rw [if_pos h, alog_len]
        rfl
      rw [e2]
      exact fin_drop [0, 1] [] (by simp) rfl (by decide) (keep2 rfl rfl (a2_p _ _) (a2_p _ _)) (hd2 rfl rfl (ne5 hd5) (ne5 (by simp [hm5])) rfl rfl)
        (.tup _ _ (.cons _ _ _ _ (rd_eX (k := 6) (e := ⟨e.disk, e.mem.set r.page.toNat (doP (at' e.mem r.page) ⟨r.kind, r.tx, r.page, r.slot, r.old, r.new, lastN e.log r.tx, r.next⟩ ((e.log.length + 1 : Nat) : Int)), e.alog r, e.safe, e.down⟩) rfl rfl (by decide) (by decide) rfl (alog_len e r).symm) (.cons _ _ _ _ rd_B .nil))) ⟨rfl, rfl, rfl⟩
    · have e2 : e.added r = ⟨e.disk, e.mem, e.alog r, e.safe, e.down⟩ := by
        unfold Eng.added Eng.amem
        rw [if_neg (by simpa using h)]
      rw [e2]
      exact fin_drop [0, 1] [] (by simp) rfl (by decide) (keep2 rfl rfl (a2_p _ _) (a2_p _ _)) (hd2 rfl rfl (ne5 hd5) (ne5 hm5) rfl rfl)
        (.tup _ _ (.cons _ _ _ _ (rd_eX (k := 6) (e := ⟨e.disk, e.mem, e.alog r, e.safe, e.down⟩) rfl rfl (by decide) (by decide) rfl (alog_len e r).symm) (.cons _ _ _ _ rd_B .nil))) ⟨rfl, rfl, rfl⟩
  · have e1 : e.add r = (e, false) := if_neg hf
    rw [e1]
    have hgt : 150 < ((e.log.length + 1 + needTo (e.alog r) 3 : Nat) : Int) := by rw [hfd, decide_eq_true_eq] at hf; omega
    clear hfd
    simp -implicitDefEqProofs only [go_sem, Tryz.f69]
    (repeat' (first | ((with_reducible first | refine gon ?_ ?_ | refine gos ?_ ?_ | refine cdn ?_ ?_ | refine cds ?_ ?_ | refine gpn ?_ ?_ | refine gps ?_ ?_) <;> intro h <;> (try simp only [dt, df, gi, gt] at h) <;> try simp -implicitDefEqProofs only [go_sem, *]) | ((with_reducible refine And.intro ?_ ?_); (· first | omega | (simp only [List.length_take]; omega)); try simp -implicitDefEqProofs only [go_sem, *]) | first | ((with_reducible refine enter_pu (hl3) ?_ ?_ ?_); (· rfl); (· rfl); try simp -implicitDefEqProofs only [go_sem, *]) | ((with_reducible refine cp_draw2 (id := 2) 6 2 mixed ?_ ?_ ?_ ?_); (· decide +kernel); (· first | (simp only [List.all_cons, List.all_nil, List.length_cons, List.length_nil, Nat.reduceAdd, Nat.reduceLT, decide_true, Bool.and_true, Bool.and_self]; done) | rfl); (· rfl); try simp -implicitDefEqProofs only [go_sem, List.append_nil, *]) | ((with_reducible refine exp_one 6 ?_ ?_); (· decide +kernel); try simp -implicitDefEqProofs only [go_sem, *]) | ((with_reducible refine exp_one 7 ?_ ?_); (· decide +kernel); try simp -implicitDefEqProofs only [go_sem, *]) | ((with_reducible refine exp_end ?_ ?_); (· decide +kernel); try simp -implicitDefEqProofs only [go_sem, *]) | ((with_reducible refine enter_own (hn) ?_ rfl rfl ?_); (· repeat (first | exact All2.nil | (refine All2.cons _ _ _ _ ?_ ?_; (· first | exact arg_same rfl | exact arg_eX5 rfl rfl (by first | omega | (simp; omega)) (by first | omega | (simp; omega)) | exact arg_eX rfl rfl (by first | omega | (simp; omega)) (by first | omega | (simp; omega)) | exact .of1 _ _ (.of0 _ _ (arg0_r rfl (by simp))))))); try simp -implicitDefEqProofs only [go_sem, *])))
    exact fin_move [0, 1] [] (by simp) rfl (by decide) (keep2 rfl rfl (a2_p _ _) (a2_p _ _)) (hm2c rfl rfl) (rnT_eXb rfl rfl) ⟨rfl, rfl, rfl⟩
end
section
attribute [local go_sem] slt_r slt_I slt_p
theorem l1Empty_fn (p : Pg) (hb : p.vals.length < 4611686018427387904) : Fn1 Tryz.prog 42 [pA p] (Bo (emptyB p)) := by
  refine fn1_of Tryz.func42 rfl rfl ?_
  simp -implicitDefEqProofs only [go_sem, Tryz.f42]
  refine cp_loop (fun i : Nat => ⟨(pA p :: .ref 0 3 0 0 :: Bo false :: I (i : Int) :: .any :: .any :: .any :: .any :: .any :: .any :: .any :: .any :: .any :: .any :: .any :: .any :: .any :: []), [some ⟨3, [pA p]⟩], []⟩) (fun i => i ≤ p.vals.length ∧ allFrom (fun k => decide (at' p.vals (k : Int) = 0)) i p.vals.length = emptyB p) (fun i => p.vals.length - i) 0 ?_ ?_ ?_
  · exact ⟨by omega, rfl⟩
  · refine wk_tm ?_; repeat (first | exact WL.nil | (with_reducible refine WL.any _ _ _ ?_) | (with_reducible refine WL.same _ _ _ ?_) | (refine WL.eq _ _ _ _ rfl ?_))
  · rintro i ⟨hi, hg⟩
    have hbi : i < 4611686018427387904 := by omega
    simp -implicitDefEqProofs only [go_sem, true_and]
    (repeat' (first | ((with_reducible first | refine gon ?_ ?_ | refine gos ?_ ?_ | refine cdn ?_ ?_ | refine cds ?_ ?_ | refine gpn ?_ ?_ | refine gps ?_ ?_) <;> intro h <;> (try simp only [dt, df, gi, gt] at h) <;> try simp -implicitDefEqProofs only [go_sem, *]) | ((with_reducible refine And.intro ?_ ?_); (· first | omega | (simp only [List.length_take]; omega)); try simp -implicitDefEqProofs only [go_sem, *]) | fail))
    all_goals first
      | ((with_reducible refine fin_pu ?_ ?_); (· (rw [← hg, allFrom_lt (by omega : i < p.vals.length)]; clear hg; simp_all; done)); (· rfl))
      | ((with_reducible refine fin_pu ?_ ?_); (· (rw [← hg, allFrom_ge (by omega : ¬ i < p.vals.length)]; done)); (· rfl))
      | ((with_reducible refine ⟨i + 1, ⟨by omega, ?_⟩, by omega, ?_⟩); (· (rw [← hg, allFrom_lt (by omega : i < p.vals.length)]; clear hg; simp_all)); (· refine wk_tm ?_; repeat (first | exact WL.nil | (with_reducible refine WL.any _ _ _ ?_) | (with_reducible refine WL.same _ _ _ ?_) | (refine WL.eq _ _ _ _ rfl ?_))))
theorem l12Took_fn (l : List Rc) (tx page : Int) (hw : Wf l) : Fn1 Tryz.prog 43 [recs l, I tx, I page] (Bo (tookB l tx page)) := by
  have hb : l.length < 4611686018427387904 := by have := hw.len; omega
  refine fn1_of Tryz.func43 rfl rfl ?_
  simp -implicitDefEqProofs only [go_sem, Tryz.f43]
  (repeat' (first | ((with_reducible first | refine gon ?_ ?_ | refine gos ?_ ?_ | refine cdn ?_ ?_ | refine cds ?_ ?_ | refine gpn ?_ ?_ | refine gps ?_ ?_) <;> intro h <;> (try simp only [dt, df, gi, gt] at h) <;> try simp -implicitDefEqProofs only [go_sem, *]) | ((with_reducible refine And.intro ?_ ?_); (· first | omega | (simp only [List.length_take]; omega)); try simp -implicitDefEqProofs only [go_sem, *]) | ((with_reducible refine enter_pu (l3Last_fn l tx ?_) ?_ ?_ ?_); (· (first | assumption | omega | (simp; omega))); (· rfl); (· rfl); try simp -implicitDefEqProofs only [go_sem, *])))
  refine cp_loop (fun n : Nat => ⟨(recs l :: I tx :: I page :: .any :: .any :: .any :: Bo false :: I (n : Int) :: .any :: .any :: .any :: .any :: .any :: .any :: .any :: .any :: .any :: .any :: .any :: .any :: .any :: .any :: .any :: .any :: .any :: .any :: .any :: .any :: .any :: .any :: .any :: .any :: .any :: .any :: .any :: .any :: .any :: .any :: .any :: []), [], []⟩) (fun n => n ≤ l.length ∧ ((chain l n).any fun n => decide ((at' l ((n : Int) - 1)).kind = 2) && decide ((at' l ((n : Int) - 1)).page = page) && decide (0 < (at' l ((n : Int) - 1)).new)) = tookB l tx page) (fun n => n) (lastN l tx) ?_ ?_ ?_
  · simp [tookB, lastN_le]
  · refine wk_tm ?_; repeat (first | exact WL.nil | (with_reducible refine WL.any _ _ _ ?_) | (with_reducible refine WL.same _ _ _ ?_) | (refine WL.eq _ _ _ _ rfl ?_))
  · rintro n ⟨hi, hg⟩
    rcases n with _ | n
    · simp -implicitDefEqProofs only [go_sem, true_and]
      (repeat' (first | ((with_reducible first | refine gon ?_ ?_ | refine gos ?_ ?_ | refine cdn ?_ ?_ | refine cds ?_ ?_ | refine gpn ?_ ?_ | refine gps ?_ ?_) <;> intro h <;> (try simp only [dt, df, gi, gt] at h) <;> try simp -implicitDefEqProofs only [go_sem, *]) | ((with_reducible refine And.intro ?_ ?_); (· first | omega | (simp only [List.length_take]; omega)); try simp -implicitDefEqProofs only [go_sem, *]) | fail))
      all_goals first | ((with_reducible refine ⟨0, ⟨by omega, ?_⟩, by omega, wk_tm ?_⟩); (· (rw [← hg]; clear hg; (simp_all [chain_zero]) <;> (first | omega | (rw [Bool.eq_iff_iff]; simp; done) | (rw [Bool.eq_iff_iff]; simp; omega) | (split <;> (first | rfl | omega | (simp_all; done)))))); (· repeat (first | exact WL.nil | (with_reducible refine WL.any _ _ _ ?_) | (with_reducible refine WL.same _ _ _ ?_) | (refine WL.eq _ _ _ _ rfl ?_)))) | ((with_reducible refine fin_pu ?_ ?_); (· (rw [← hg]; first | done | (clear hg; (simp_all [chain_zero]) <;> (first | omega | (rw [Bool.eq_iff_iff]; simp; done) | (rw [Bool.eq_iff_iff]; simp; omega) | (split <;> (first | rfl | omega | (simp_all; done))))))); (· rfl))
    · obtain ⟨m, hm, hp⟩ := hw.prev n (by omega)
      have hb : n < 4611686018427387904 := by omega
      simp -implicitDefEqProofs only [go_sem, hb, hp]
      (repeat' (first | ((with_reducible first | refine gon ?_ ?_ | refine gos ?_ ?_ | refine cdn ?_ ?_ | refine cds ?_ ?_ | refine gpn ?_ ?_ | refine gps ?_ ?_) <;> intro h <;> (try simp only [dt, df, gi, gt] at h) <;> try simp -implicitDefEqProofs only [go_sem, *]) | ((with_reducible refine And.intro ?_ ?_); (· first | omega | (simp only [List.length_take]; omega)); try simp -implicitDefEqProofs only [go_sem, *]) | fail))
      all_goals first
        | ((with_reducible refine fin_pu ?_ ?_); (· (rw [← hg, chain_succ hp hm]; clear hg; (simp_all [succ_m1]) <;> (first | omega | (rw [Bool.eq_iff_iff]; simp; done) | (rw [Bool.eq_iff_iff]; simp; omega) | (split <;> (first | rfl | omega | (simp_all; done)))))); (· rfl))
        | ((with_reducible refine ⟨m, ⟨by omega, ?_⟩, by omega, ?_⟩); (· (rw [← hg, chain_succ hp hm]; clear hg; (simp_all [succ_m1]) <;> (first | omega | (rw [Bool.eq_iff_iff]; simp; done) | (rw [Bool.eq_iff_iff]; simp; omega) | (split <;> (first | rfl | omega | (simp_all; done)))))); (· refine WkN.trans (wk_tm ?_) (wk_trunc (S := []) (Nat.le_refl _) rfl (by first | rfl | (simp only [sltB, List.all_cons, List.all_nil, slt_p, slt_I, slt_r, Bool.and_true]; done) | (simp only [sltB, List.all_cons, List.all_nil, slt_p, slt_I, slt_r, Bool.and_true]; rfl))); repeat (first | exact WL.nil | (with_reducible refine WL.any _ _ _ ?_) | (with_reducible refine WL.same _ _ _ ?_) | (refine WL.eq _ _ _ _ rfl ?_))))
theorem l12Put_c (e : Eng) (tx page slot val : Int) (hi : Inv e) : AFn1 Tryz.prog 23 [eX 0 1 e, I tx, I page, I slot, I val] (sO e) (.tup [eX 0 1 (e.put tx page slot val).1, Bo (e.put tx page slot val).2]) (sO (e.put tx page slot val).1) [] := by
  have hd5 := hi.disk.len
  have hm5 := hi.mem.len
  have hmay := l12May_fn e tx page hi.wf
  have h6a := l6In_fn slot 0 2
  have h6b := l6In_fn val 0 9
  refine afn1_of Tryz.func23 rfl rfl ?_
  by_cases h1 : mayB e tx page = true
  · rw [h1] at hmay
    obtain ⟨-, ht, hp⟩ := mayB_iff h1
    obtain ⟨k, hk, rfl⟩ := page_nat hp
    have hsz := hi.mem.sz.sz k hk
    have h5 : (k : Int) < 5 := by omega
    clear hp
    by_cases h2 : isIn slot 0 2 = true
    · rw [h2] at h6a
      by_cases h3 : isIn val 0 9 = true
      · rw [h3] at h6b
        by_cases h4 : (at' e.mem (k : Int)).owner = 0
        · have h4b : ((at' e.mem (k : Int)).owner == 0) = true := by simpa using h4
          have e1 : e.put tx k slot val = (e, false) := if_neg (by simp [Eng.putB, h4])
          rw [e1]
          clear h4
          simp -implicitDefEqProofs only [go_sem, Tryz.f23]
          (repeat' (first | ((with_reducible first | refine gon ?_ ?_ | refine gos ?_ ?_ | refine cdn ?_ ?_ | refine cds ?_ ?_ | refine gpn ?_ ?_ | refine gps ?_ ?_) <;> intro h <;> (try simp only [dt, df, gi, gt] at h) <;> try simp -implicitDefEqProofs only [go_sem, *]) | ((with_reducible refine And.intro ?_ ?_); (· first | omega | (simp only [List.length_take]; omega)); try simp -implicitDefEqProofs only [go_sem, *]) | first | ((with_reducible refine enter_own (hmay) ?_ rfl rfl ?_); (· repeat (first | exact All2.nil | (refine All2.cons _ _ _ _ ?_ ?_; (· first | exact arg_same rfl | exact arg_eX5 rfl rfl (by first | omega | (simp; omega)) (by first | omega | (simp; omega)) | exact arg_eX rfl rfl (by first | omega | (simp; omega)) (by first | omega | (simp; omega)) | exact .of1 _ _ (.of0 _ _ (arg0_r rfl (by simp))))))); try simp -implicitDefEqProofs only [go_sem, *]) | ((with_reducible refine enter_pu (h6a) ?_ ?_ ?_); (· rfl); (· rfl); try simp -implicitDefEqProofs only [go_sem, *]) | ((with_reducible refine enter_pu (h6b) ?_ ?_ ?_); (· rfl); (· rfl); try simp -implicitDefEqProofs only [go_sem, *])))
          exact fin_move [0, 1] [] (by simp) rfl (by decide) (keep2 rfl rfl (a2_p _ _) (a2_p _ _)) (hm2 rfl) (rnT_eXb rfl rfl) ⟨rfl, rfl, rfl⟩
        · have h4b : ((at' e.mem (k : Int)).owner == 0) = false := by simpa using h4
          have hb : e.putB tx k slot val = true := by simp [Eng.putB, h1, h2, h3, h4]
          have e1 : e.put tx k slot val = e.add (e.putR tx k slot val) := if_pos hb
          have hadd := l12Add_c e (e.putR tx k slot val) hi (can_put hi hb)
          rw [e1]
          unfold isIn at h2
          simp only [Bool.and_eq_true, decide_eq_true_eq] at h2
          simp -implicitDefEqProofs only [go_sem, Tryz.f23]
          (repeat' (first | ((with_reducible first | refine gon ?_ ?_ | refine gos ?_ ?_ | refine cdn ?_ ?_ | refine cds ?_ ?_ | refine gpn ?_ ?_ | refine gps ?_ ?_) <;> intro h <;> (try simp only [dt, df, gi, gt] at h) <;> try simp -implicitDefEqProofs only [go_sem, *]) | ((with_reducible refine And.intro ?_ ?_); (· first | omega | (simp only [List.length_take]; omega)); try simp -implicitDefEqProofs only [go_sem, *]) | first | ((with_reducible refine enter_own (hmay) ?_ rfl rfl ?_); (· repeat (first | exact All2.nil | (refine All2.cons _ _ _ _ ?_ ?_; (· first | exact arg_same rfl | exact arg_eX5 rfl rfl (by first | omega | (simp; omega)) (by first | omega | (simp; omega)) | exact arg_eX rfl rfl (by first | omega | (simp; omega)) (by first | omega | (simp; omega)) | exact .of1 _ _ (.of0 _ _ (arg0_r rfl (by simp))))))); try simp -implicitDefEqProofs only [go_sem, *]) | ((with_reducible refine enter_pu (h6a) ?_ ?_ ?_); (· rfl); (· rfl); try simp -implicitDefEqProofs only [go_sem, *]) | ((with_reducible refine enter_pu (h6b) ?_ ?_ ?_); (· rfl); (· rfl); try simp -implicitDefEqProofs only [go_sem, *]) | ((with_reducible refine cp_draw2 (id := 3) 15 5 mixed ?_ ?_ ?_ ?_); (· decide +kernel); (· first | (simp only [List.all_cons, List.all_nil, List.length_cons, List.length_nil, Nat.reduceAdd, Nat.reduceLT, decide_true, Bool.and_true, Bool.and_self]; done) | rfl); (· rfl); try simp -implicitDefEqProofs only [go_sem, List.append_nil, *]) | ((with_reducible refine enter_at1 [0, 1] (M2 := []) (hadd) (by decide) ?_ ?_ rfl ?_); (· repeat (first | exact Keeps.nil | (refine Keeps.cons _ _ _ _ _ rfl rfl ?_ ?_; (· first | exact a2_p _ _ | exact a2_1 rfl | exact a2_I _ _)))); (· repeat (first | exact All2.nil | (refine All2.cons _ _ _ _ ?_ ?_; (· first | exact rnT_eX rfl rfl | exact rnT_prim | exact rnT_sl | exact rnT_ref rfl | exact rnT_agg rfl | exact rnT_own rfl | exact rnT_eX5 rfl rfl)))); try simp -implicitDefEqProofs only [go_sem, *]) | ((with_reducible refine exp_end ?_ ?_); (· decide +kernel); try simp -implicitDefEqProofs only [go_sem, *]) | ((with_reducible refine exp_one 15 ?_ ?_); (· decide +kernel); try simp -implicitDefEqProofs only [go_sem, *]) | ((with_reducible refine exp_one 16 ?_ ?_); (· decide +kernel); try simp -implicitDefEqProofs only [go_sem, *]) | ((with_reducible refine exp_one 17 ?_ ?_); (· decide +kernel); try simp -implicitDefEqProofs only [go_sem, *]) | ((with_reducible refine exp_one 18 ?_ ?_); (· decide +kernel); try simp -implicitDefEqProofs only [go_sem, *]) | ((with_reducible refine exp_one 19 ?_ ?_); (· decide +kernel); try simp -implicitDefEqProofs only [go_sem, *]) | ((with_reducible refine exp_two 16 17 ?_ ?_ ?_); (· decide +kernel); all_goals (try simp -implicitDefEqProofs only [go_sem, *])) | ((with_reducible refine exp_two 17 18 ?_ ?_ ?_); (· decide +kernel); all_goals (try simp -implicitDefEqProofs only [go_sem, *])) | ((with_reducible refine exp_two 18 19 ?_ ?_ ?_); (· decide +kernel); all_goals (try simp -implicitDefEqProofs only [go_sem, *])) | ((with_reducible refine exp_two 16 19 ?_ ?_ ?_); (· decide +kernel); all_goals (try simp -implicitDefEqProofs only [go_sem, *]))))
          all_goals exact fin_move [0, 1] [] (by simp) rfl (by decide) (keep2 rfl rfl (a2_p _ _) (a2_p _ _)) (hm2 rfl) (rnT_eXb rfl rfl) ⟨rfl, rfl, rfl⟩
      · have h3' : isIn val 0 9 = false := by simpa using h3
        rw [h3'] at h6b
        have e1 : e.put tx k slot val = (e, false) := if_neg (by simp [Eng.putB, h3'])
        rw [e1]
        simp -implicitDefEqProofs only [go_sem, Tryz.f23]
        (repeat' (first | ((with_reducible first | refine gon ?_ ?_ | refine gos ?_ ?_ | refine cdn ?_ ?_ | refine cds ?_ ?_ | refine gpn ?_ ?_ | refine gps ?_ ?_) <;> intro h <;> (try simp only [dt, df, gi, gt] at h) <;> try simp -implicitDefEqProofs only [go_sem, *]) | ((with_reducible refine And.intro ?_ ?_); (· first | omega | (simp only [List.length_take]; omega)); try simp -implicitDefEqProofs only [go_sem, *]) | first | ((with_reducible refine enter_own (hmay) ?_ rfl rfl ?_); (· repeat (first | exact All2.nil | (refine All2.cons _ _ _ _ ?_ ?_; (· first | exact arg_same rfl | exact arg_eX5 rfl rfl (by first | omega | (simp; omega)) (by first | omega | (simp; omega)) | exact arg_eX rfl rfl (by first | omega | (simp; omega)) (by first | omega | (simp; omega)) | exact .of1 _ _ (.of0 _ _ (arg0_r rfl (by simp))))))); try simp -implicitDefEqProofs only [go_sem, *]) | ((with_reducible refine enter_pu (h6a) ?_ ?_ ?_); (· rfl); (· rfl); try simp -implicitDefEqProofs only [go_sem, *]) | ((with_reducible refine enter_pu (h6b) ?_ ?_ ?_); (· rfl); (· rfl); try simp -implicitDefEqProofs only [go_sem, *])))
        exact fin_move [0, 1] [] (by simp) rfl (by decide) (keep2 rfl rfl (a2_p _ _) (a2_p _ _)) (hm2 rfl) (rnT_eXb rfl rfl) ⟨rfl, rfl, rfl⟩
    · have h2' : isIn slot 0 2 = false := by simpa using h2
      rw [h2'] at h6a
      have e1 : e.put tx k slot val = (e, false) := if_neg (by simp [Eng.putB, h2'])
      rw [e1]
      simp -implicitDefEqProofs only [go_sem, Tryz.f23]
      (repeat' (first | ((with_reducible first | refine gon ?_ ?_ | refine gos ?_ ?_ | refine cdn ?_ ?_ | refine cds ?_ ?_ | refine gpn ?_ ?_ | refine gps ?_ ?_) <;> intro h <;> (try simp only [dt, df, gi, gt] at h) <;> try simp -implicitDefEqProofs only [go_sem, *]) | ((with_reducible refine And.intro ?_ ?_); (· first | omega | (simp only [List.length_take]; omega)); try simp -implicitDefEqProofs only [go_sem, *]) | first | ((with_reducible refine enter_own (hmay) ?_ rfl rfl ?_); (· repeat (first | exact All2.nil | (refine All2.cons _ _ _ _ ?_ ?_; (· first | exact arg_same rfl | exact arg_eX5 rfl rfl (by first | omega | (simp; omega)) (by first | omega | (simp; omega)) | exact arg_eX rfl rfl (by first | omega | (simp; omega)) (by first | omega | (simp; omega)) | exact .of1 _ _ (.of0 _ _ (arg0_r rfl (by simp))))))); try simp -implicitDefEqProofs only [go_sem, *]) | ((with_reducible refine enter_pu (h6a) ?_ ?_ ?_); (· rfl); (· rfl); try simp -implicitDefEqProofs only [go_sem, *]) | ((with_reducible refine enter_pu (h6b) ?_ ?_ ?_); (· rfl); (· rfl); try simp -implicitDefEqProofs only [go_sem, *])))
      exact fin_move [0, 1] [] (by simp) rfl (by decide) (keep2 rfl rfl (a2_p _ _) (a2_p _ _)) (hm2 rfl) (rnT_eXb rfl rfl) ⟨rfl, rfl, rfl⟩
  · have h1' : mayB e tx page = false := by simpa using h1
    rw [h1'] at hmay
    have e1 : e.put tx page slot val = (e, false) := if_neg (by simp [Eng.putB, h1'])
    rw [e1]
    simp -implicitDefEqProofs only [go_sem, Tryz.f23]
    (repeat' (first | ((with_reducible first | refine gon ?_ ?_ | refine gos ?_ ?_ | refine cdn ?_ ?_ | refine cds ?_ ?_ | refine gpn ?_ ?_ | refine gps ?_ ?_) <;> intro h <;> (try simp only [dt, df, gi, gt] at h) <;> try simp -implicitDefEqProofs only [go_sem, *]) | ((with_reducible refine And.intro ?_ ?_); (· first | omega | (simp only [List.length_take]; omega)); try simp -implicitDefEqProofs only [go_sem, *]) | first | ((with_reducible refine enter_own (hmay) ?_ rfl rfl ?_); (· repeat (first | exact All2.nil | (refine All2.cons _ _ _ _ ?_ ?_; (· first | exact arg_same rfl | exact arg_eX5 rfl rfl (by first | omega | (simp; omega)) (by first | omega | (simp; omega)) | exact arg_eX rfl rfl (by first | omega | (simp; omega)) (by first | omega | (simp; omega)) | exact .of1 _ _ (.of0 _ _ (arg0_r rfl (by simp))))))); try simp -implicitDefEqProofs only [go_sem, *])))
    exact fin_move [0, 1] [] (by simp) rfl (by decide) (keep2 rfl rfl (a2_p _ _) (a2_p _ _)) (hm2 rfl) (rnT_eXb rfl rfl) ⟨rfl, rfl, rfl⟩
theorem l12Own_c (e : Eng) (tx page table : Int) (hi : Inv e) : AFn1 Tryz.prog 84 [eX 0 1 e, I tx, I page, I table] (sO e) (.tup [eX 0 1 (e.own tx page table).1, Bo (e.own tx page table).2]) (sO (e.own tx page table).1) [] := by
  have hd5 := hi.disk.len
  have hm5 := hi.mem.len
  have hmay := l12May_fn e tx page hi.wf
  have h6a := l6In_fn table 0 3
  refine afn1_of Tryz.func84 rfl rfl ?_
  by_cases h1 : mayB e tx page = true
  · rw [h1] at hmay
    obtain ⟨-, ht, hp⟩ := mayB_iff h1
    obtain ⟨k, hk, rfl⟩ := page_nat hp
    have hsz := hi.mem.sz.sz k hk
    have h5 : (k : Int) < 5 := by omega
    clear hp
    have hem := l1Empty_fn (at' e.mem (k : Int)) (by omega)
    by_cases h2 : isIn table 0 3 = true
    · rw [h2] at h6a
      by_cases h4 : ((((at' e.mem (k : Int)).owner == 0) == (table == 0)) = true)
      · have e1 : e.own tx k table = (e, false) := if_neg (by
          have : (decide ((at' e.mem (k : Int)).owner = 0) != decide (table = 0)) = false := by clear hmay hem h6a; by_cases q1 : (at' e.mem (k : Int)).owner = 0 <;> by_cases q2 : table = 0 <;> simp_all
          simp [Eng.ownB, this])
        rw [e1]
        simp -implicitDefEqProofs only [go_sem, Tryz.f84]
        (repeat' (first | ((with_reducible first | refine gon ?_ ?_ | refine gos ?_ ?_ | refine cdn ?_ ?_ | refine cds ?_ ?_ | refine gpn ?_ ?_ | refine gps ?_ ?_) <;> intro h <;> (try simp only [dt, df, gi, gt] at h) <;> try simp -implicitDefEqProofs only [go_sem, *]) | ((with_reducible refine And.intro ?_ ?_); (· first | omega | (simp only [List.length_take]; omega)); try simp -implicitDefEqProofs only [go_sem, *]) | first | ((with_reducible refine enter_own (hmay) ?_ rfl rfl ?_); (· repeat (first | exact All2.nil | (refine All2.cons _ _ _ _ ?_ ?_; (· first | exact arg_same rfl | exact arg_eX5 rfl rfl (by first | omega | (simp; omega)) (by first | omega | (simp; omega)) | exact arg_eX rfl rfl (by first | omega | (simp; omega)) (by first | omega | (simp; omega)) | exact .of1 _ _ (.of0 _ _ (arg0_r rfl (by simp))))))); try simp -implicitDefEqProofs only [go_sem, *]) | ((with_reducible refine enter_pu (h6a) ?_ ?_ ?_); (· rfl); (· rfl); try simp -implicitDefEqProofs only [go_sem, *])))
        exact fin_move [0, 1] [] (by simp) rfl (by decide) (keep2 rfl rfl (a2_p _ _) (a2_p _ _)) (hm2 rfl) (rnT_eXb rfl rfl) ⟨rfl, rfl, rfl⟩
      · have h4' : (((at' e.mem (k : Int)).owner == 0) == (table == 0)) = false := by simpa using h4
        by_cases h3 : emptyB (at' e.mem (k : Int)) = true
        · rw [h3] at hem
          have hb : e.ownB tx k table = true := by
            have : (decide ((at' e.mem (k : Int)).owner = 0) != decide (table = 0)) = true := by
              have q0 : ∀ a b : Int, ((a == 0) == (b == 0)) = false → (decide (a = 0) != decide (b = 0)) = true := by
                intro a b
                have ea : ∀ c : Int, (c == 0) = decide (c = 0) := fun c => by by_cases h : c = 0 <;> simp [h]
                rw [ea, ea]
                cases decide (a = 0) <;> cases decide (b = 0) <;> simp
              exact q0 _ _ h4'
            simp [Eng.ownB, h1, h2, h3, this]
          have e1 : e.own tx k table = e.add (e.ownR tx k table) := if_pos hb
          have hadd := l12Add_c e (e.ownR tx k table) hi (can_own hi hb)
          rw [e1]
          simp -implicitDefEqProofs only [go_sem, Tryz.f84]
          (repeat' (first | ((with_reducible first | refine gon ?_ ?_ | refine gos ?_ ?_ | refine cdn ?_ ?_ | refine cds ?_ ?_ | refine gpn ?_ ?_ | refine gps ?_ ?_) <;> intro h <;> (try simp only [dt, df, gi, gt] at h) <;> try simp -implicitDefEqProofs only [go_sem, *]) | ((with_reducible refine And.intro ?_ ?_); (· first | omega | (simp only [List.length_take]; omega)); try simp -implicitDefEqProofs only [go_sem, *]) | first | ((with_reducible refine enter_own (hmay) ?_ rfl rfl ?_); (· repeat (first | exact All2.nil | (refine All2.cons _ _ _ _ ?_ ?_; (· first | exact arg_same rfl | exact arg_eX5 rfl rfl (by first | omega | (simp; omega)) (by first | omega | (simp; omega)) | exact arg_eX rfl rfl (by first | omega | (simp; omega)) (by first | omega | (simp; omega)) | exact .of1 _ _ (.of0 _ _ (arg0_r rfl (by simp))))))); try simp -implicitDefEqProofs only [go_sem, *]) | ((with_reducible refine enter_pu (h6a) ?_ ?_ ?_); (· rfl); (· rfl); try simp -implicitDefEqProofs only [go_sem, *]) | ((with_reducible refine enter_pu (hem) ?_ ?_ ?_); (· rfl); (· rfl); try simp -implicitDefEqProofs only [go_sem, *]) | ((with_reducible refine cp_draw2 (id := 3) 11 5 mixed ?_ ?_ ?_ ?_); (· decide +kernel); (· first | (simp only [List.all_cons, List.all_nil, List.length_cons, List.length_nil, Nat.reduceAdd, Nat.reduceLT, decide_true, Bool.and_true, Bool.and_self]; done) | rfl); (· rfl); try simp -implicitDefEqProofs only [go_sem, List.append_nil, *]) | ((with_reducible refine enter_at1 [0, 1] (M2 := []) (hadd) (by decide) ?_ ?_ rfl ?_); (· repeat (first | exact Keeps.nil | (refine Keeps.cons _ _ _ _ _ rfl rfl ?_ ?_; (· first | exact a2_p _ _ | exact a2_1 rfl | exact a2_I _ _)))); (· repeat (first | exact All2.nil | (refine All2.cons _ _ _ _ ?_ ?_; (· first | exact rnT_eX rfl rfl | exact rnT_prim | exact rnT_sl | exact rnT_ref rfl | exact rnT_agg rfl | exact rnT_own rfl | exact rnT_eX5 rfl rfl)))); try simp -implicitDefEqProofs only [go_sem, *]) | ((with_reducible refine exp_end ?_ ?_); (· decide +kernel); try simp -implicitDefEqProofs only [go_sem, *]) | ((with_reducible refine exp_one 11 ?_ ?_); (· decide +kernel); try simp -implicitDefEqProofs only [go_sem, *]) | ((with_reducible refine exp_one 12 ?_ ?_); (· decide +kernel); try simp -implicitDefEqProofs only [go_sem, *]) | ((with_reducible refine exp_one 13 ?_ ?_); (· decide +kernel); try simp -implicitDefEqProofs only [go_sem, *]) | ((with_reducible refine exp_one 14 ?_ ?_); (· decide +kernel); try simp -implicitDefEqProofs only [go_sem, *]) | ((with_reducible refine exp_one 15 ?_ ?_); (· decide +kernel); try simp -implicitDefEqProofs only [go_sem, *]) | ((with_reducible refine exp_two 12 13 ?_ ?_ ?_); (· decide +kernel); all_goals (try simp -implicitDefEqProofs only [go_sem, *])) | ((with_reducible refine exp_two 13 14 ?_ ?_ ?_); (· decide +kernel); all_goals (try simp -implicitDefEqProofs only [go_sem, *])) | ((with_reducible refine exp_two 14 15 ?_ ?_ ?_); (· decide +kernel); all_goals (try simp -implicitDefEqProofs only [go_sem, *])) | ((with_reducible refine exp_two 12 15 ?_ ?_ ?_); (· decide +kernel); all_goals (try simp -implicitDefEqProofs only [go_sem, *]))))
          all_goals exact fin_move [0, 1] [] (by simp) rfl (by decide) (keep2 rfl rfl (a2_p _ _) (a2_p _ _)) (hm2 rfl) (rnT_eXb rfl rfl) ⟨rfl, rfl, rfl⟩
        · have h3' : emptyB (at' e.mem (k : Int)) = false := by simpa using h3
          rw [h3'] at hem
          have e1 : e.own tx k table = (e, false) := if_neg (by simp [Eng.ownB, h3'])
          rw [e1]
          simp -implicitDefEqProofs only [go_sem, Tryz.f84]
          (repeat' (first | ((with_reducible first | refine gon ?_ ?_ | refine gos ?_ ?_ | refine cdn ?_ ?_ | refine cds ?_ ?_ | refine gpn ?_ ?_ | refine gps ?_ ?_) <;> intro h <;> (try simp only [dt, df, gi, gt] at h) <;> try simp -implicitDefEqProofs only [go_sem, *]) | ((with_reducible refine And.intro ?_ ?_); (· first | omega | (simp only [List.length_take]; omega)); try simp -implicitDefEqProofs only [go_sem, *]) | first | ((with_reducible refine enter_own (hmay) ?_ rfl rfl ?_); (· repeat (first | exact All2.nil | (refine All2.cons _ _ _ _ ?_ ?_; (· first | exact arg_same rfl | exact arg_eX5 rfl rfl (by first | omega | (simp; omega)) (by first | omega | (simp; omega)) | exact arg_eX rfl rfl (by first | omega | (simp; omega)) (by first | omega | (simp; omega)) | exact .of1 _ _ (.of0 _ _ (arg0_r rfl (by simp))))))); try simp -implicitDefEqProofs only [go_sem, *]) | ((with_reducible refine enter_pu (h6a) ?_ ?_ ?_); (· rfl); (· rfl); try simp -implicitDefEqProofs only [go_sem, *]) | ((with_reducible refine enter_pu (hem) ?_ ?_ ?_); (· rfl); (· rfl); try simp -implicitDefEqProofs only [go_sem, *])))
          exact fin_move [0, 1] [] (by simp) rfl (by decide) (keep2 rfl rfl (a2_p _ _) (a2_p _ _)) (hm2 rfl) (rnT_eXb rfl rfl) ⟨rfl, rfl, rfl⟩
    · have h2' : isIn table 0 3 = false := by simpa using h2
      rw [h2'] at h6a
      have e1 : e.own tx k table = (e, false) := if_neg (by simp [Eng.ownB, h2'])
      rw [e1]
      simp -implicitDefEqProofs only [go_sem, Tryz.f84]
      (repeat' (first | ((with_reducible first | refine gon ?_ ?_ | refine gos ?_ ?_ | refine cdn ?_ ?_ | refine cds ?_ ?_ | refine gpn ?_ ?_ | refine gps ?_ ?_) <;> intro h <;> (try simp only [dt, df, gi, gt] at h) <;> try simp -implicitDefEqProofs only [go_sem, *]) | ((with_reducible refine And.intro ?_ ?_); (· first | omega | (simp only [List.length_take]; omega)); try simp -implicitDefEqProofs only [go_sem, *]) | first | ((with_reducible refine enter_own (hmay) ?_ rfl rfl ?_); (· repeat (first | exact All2.nil | (refine All2.cons _ _ _ _ ?_ ?_; (· first | exact arg_same rfl | exact arg_eX5 rfl rfl (by first | omega | (simp; omega)) (by first | omega | (simp; omega)) | exact arg_eX rfl rfl (by first | omega | (simp; omega)) (by first | omega | (simp; omega)) | exact .of1 _ _ (.of0 _ _ (arg0_r rfl (by simp))))))); try simp -implicitDefEqProofs only [go_sem, *]) | ((with_reducible refine enter_pu (h6a) ?_ ?_ ?_); (· rfl); (· rfl); try simp -implicitDefEqProofs only [go_sem, *])))
      exact fin_move [0, 1] [] (by simp) rfl (by decide) (keep2 rfl rfl (a2_p _ _) (a2_p _ _)) (hm2 rfl) (rnT_eXb rfl rfl) ⟨rfl, rfl, rfl⟩
  · have h1' : mayB e tx page = false := by simpa using h1
    rw [h1'] at hmay
    have e1 : e.own tx page table = (e, false) := if_neg (by simp [Eng.ownB, h1'])
    rw [e1]
    simp -implicitDefEqProofs only [go_sem, Tryz.f84]
    (repeat' (first | ((with_reducible first | refine gon ?_ ?_ | refine gos ?_ ?_ | refine cdn ?_ ?_ | refine cds ?_ ?_ | refine gpn ?_ ?_ | refine gps ?_ ?_) <;> intro h <;> (try simp only [dt, df, gi, gt] at h) <;> try simp -implicitDefEqProofs only [go_sem, *]) | ((with_reducible refine And.intro ?_ ?_); (· first | omega | (simp only [List.length_take]; omega)); try simp -implicitDefEqProofs only [go_sem, *]) | first | ((with_reducible refine enter_own (hmay) ?_ rfl rfl ?_); (· repeat (first | exact All2.nil | (refine All2.cons _ _ _ _ ?_ ?_; (· first | exact arg_same rfl | exact arg_eX5 rfl rfl (by first | omega | (simp; omega)) (by first | omega | (simp; omega)) | exact arg_eX rfl rfl (by first | omega | (simp; omega)) (by first | omega | (simp; omega)) | exact .of1 _ _ (.of0 _ _ (arg0_r rfl (by simp))))))); try simp -implicitDefEqProofs only [go_sem, *])))
    exact fin_move [0, 1] [] (by simp) rfl (by decide) (keep2 rfl rfl (a2_p _ _) (a2_p _ _)) (hm2 rfl) (rnT_eXb rfl rfl) ⟨rfl, rfl, rfl⟩
end
section
attribute [local go_sem] slt_r slt_I slt_p
attribute [local congr] yieldR_congr nc_congr
@[local go_sem] theorem yieldR_idx' {α : Type} [Inhabited α] {z : Nat} {te : TI} {f : α → D} {l : List α} {n : Int} {v : AV} :
    yieldR (idx z te f l n) v = ((0 ≤ n ∧ n.toNat < l.length ∧ te.zs.length = z) ∧ .ro (f (at' l n)).cells = v) := by
  unfold idx
  rw [indexS_sl, yieldR_val]
  refine propext ?_
  rw [List.length_map]
  constructor
  · rintro ⟨h, k⟩
    rw [idx_eq h.2.1] at k
    exact ⟨h, k⟩
  · rintro ⟨h, k⟩
    rw [← idx_eq h.2.1] at k
    exact ⟨h, k⟩
theorem l13Step_c (e : Eng) (tx : Int) (hi : Inv e) (ht : 1 ≤ tx ∧ tx ≤ 3) : AFn1 Tryz.prog 150 [eX 0 1 e, I tx] (sO e) (eX 0 1 (e.step tx)) (sO (e.step tx)) [] := by
  have hd5 := hi.disk.len
  have hm5 := hi.mem.len
  have hlen := hi.len
  have hlb : e.log.length < 4611686018427387904 := by omega
  have hl3 := l3Last_fn e.log tx hlb
  have hll := lastN_le e.log tx
  have hbk := l11Back_fn e.log (lastN e.log tx) hi.wf hll
  have hadd := l12Add_c e (e.stepR tx) hi (can_step hi ht)
  have hble := backN_le e.log (lastN e.log tx)
  refine afn1_of Tryz.func150 rfl rfl ?_
  unfold Eng.step
  rcases hb : backN e.log (lastN e.log tx) with _ | b
  · have e1 : e.stepR tx = endR tx := by unfold Eng.stepR; rw [hb]
    rw [e1] at hadd ⊢
    rw [hb] at hbk
    simp -implicitDefEqProofs only [go_sem, Tryz.f150]
    (repeat' (first | ((with_reducible first | refine gon ?_ ?_ | refine gos ?_ ?_ | refine cdn ?_ ?_ | refine cds ?_ ?_ | refine gpn ?_ ?_ | refine gps ?_ ?_) <;> intro h <;> (try simp only [dt, df, gi, gt] at h) <;> try simp -implicitDefEqProofs only [go_sem, *]) | ((with_reducible refine And.intro ?_ ?_); (· first | omega | (simp only [List.length_take]; omega)); try simp -implicitDefEqProofs only [go_sem, *]) | first | ((with_reducible refine enter_pu (hl3) ?_ ?_ ?_); (· rfl); (· rfl); try simp -implicitDefEqProofs only [go_sem, *]) | ((with_reducible refine enter_pu (hbk) ?_ ?_ ?_); (· rfl); (· rfl); try simp -implicitDefEqProofs only [go_sem, *]) | ((with_reducible refine enter_at1 [0, 1] (M2 := []) (hadd) (by decide) ?_ ?_ rfl ?_); (· repeat (first | exact Keeps.nil | (refine Keeps.cons _ _ _ _ _ rfl rfl ?_ ?_; (· first | exact a2_p _ _ | exact a2_1 rfl | exact a2_I _ _)))); (· repeat (first | exact All2.nil | (refine All2.cons _ _ _ _ ?_ ?_; (· first | exact rnT_eX rfl rfl | exact rnT_prim | exact rnT_sl | exact rnT_ref rfl | exact rnT_agg rfl | exact rnT_own rfl | exact rnT_eX5 rfl rfl)))); try simp -implicitDefEqProofs only [go_sem, *])))
    all_goals exact fin_move [0, 1] [] (by simp) rfl (by decide) (keep2 rfl rfl (a2_p _ _) (a2_p _ _)) (hm2 rfl) (rnT_eX rfl rfl) ⟨rfl, rfl, rfl⟩
  · have e1 : e.stepR tx = (at' e.log (b : Int)).back (lastN e.log tx) := by unfold Eng.stepR; rw [hb]
    rw [e1] at hadd ⊢
    rw [hb] at hbk
    have hbb : b < 4611686018427387904 := by omega
    have hblt : b < e.log.length := by omega
    have hback := l2Back_fn (at' e.log (b : Int)) (lastN e.log tx)
    simp -implicitDefEqProofs only [go_sem, Tryz.f150]
    (repeat' (first | ((with_reducible first | refine gon ?_ ?_ | refine gos ?_ ?_ | refine cdn ?_ ?_ | refine cds ?_ ?_ | refine gpn ?_ ?_ | refine gps ?_ ?_) <;> intro h <;> (try simp only [dt, df, gi, gt] at h) <;> try simp -implicitDefEqProofs only [go_sem, *]) | ((with_reducible refine And.intro ?_ ?_); (· first | omega | (simp only [List.length_take]; omega)); try simp -implicitDefEqProofs only [go_sem, *]) | first | ((with_reducible refine enter_pu (hl3) ?_ ?_ ?_); (· rfl); (· rfl); try simp -implicitDefEqProofs only [go_sem, *]) | ((with_reducible refine enter_pu (hbk) ?_ ?_ ?_); (· rfl); (· rfl); try simp -implicitDefEqProofs only [go_sem, *])))
    refine cp_drawG (id := 6) 16 (fun S => getO S 2 = some ⟨5, [eX 0 1 e]⟩) mixed rfl ?_
    ((refine expG_get 0 (eX 0 1 e) rfl ?_ ?_ ?_ ?_ ?_); (· decide +kernel); (· decide +kernel); (· rfl); (· (intro S hS0; simp -implicitDefEqProofs only [go_sem, hS0, *])); try simp -implicitDefEqProofs only [go_sem, List.set_cons_succ, List.set_cons_zero])
    ((refine expG_get 1 (.ref 2 5 0 2) rfl ?_ ?_ ?_ ?_ ?_); (· decide +kernel); (· decide +kernel); (· rfl); (· (intro S hS0; simp -implicitDefEqProofs only [go_sem, hS0, *])); try simp -implicitDefEqProofs only [go_sem, List.set_cons_succ, List.set_cons_zero])
    ((refine expG_get 2 (recs e.log) rfl ?_ ?_ ?_ ?_ ?_); (· decide +kernel); (· decide +kernel); (· rfl); (· (intro S hS0; simp -implicitDefEqProofs only [go_sem, hS0, *])); try simp -implicitDefEqProofs only [go_sem, List.set_cons_succ, List.set_cons_zero])
    ((refine expG_get 3 (I ((b + 1 : Nat) : Int)) rfl ?_ ?_ ?_ ?_ ?_); (· decide +kernel); (· decide +kernel); (· rfl); (· (intro S hS0; simp -implicitDefEqProofs only [go_sem, hS0, *])); try simp -implicitDefEqProofs only [go_sem, List.set_cons_succ, List.set_cons_zero])
    ((refine expG_get 4 (I (b : Int)) rfl ?_ ?_ ?_ ?_ ?_); (· decide +kernel); (· decide +kernel); (· rfl); (· (intro S hS0; simp -implicitDefEqProofs only [go_sem, hS0, *])); try simp -implicitDefEqProofs only [go_sem, List.set_cons_succ, List.set_cons_zero])
    ((refine expG_get 5 (.ro (rD (at' e.log (b : Int))).cells) rfl ?_ ?_ ?_ ?_ ?_); (· decide +kernel); (· decide +kernel); (· rfl); (· (intro S hS0; simp -implicitDefEqProofs only [go_sem, hS0, *])); try simp -implicitDefEqProofs only [go_sem, List.set_cons_succ, List.set_cons_zero])
    ((refine expG_get 6 (rA (at' e.log (b : Int))) rfl ?_ ?_ ?_ ?_ ?_); (· decide +kernel); (· decide +kernel); (· rfl); (· (intro S hS0; simp -implicitDefEqProofs only [go_sem, hS0, *])); try simp -implicitDefEqProofs only [go_sem, List.set_cons_succ, List.set_cons_zero])
    ((refine expG_get 7 (I (lastN e.log tx : Int)) rfl ?_ ?_ ?_ ?_ ?_); (· decide +kernel); (· decide +kernel); (· rfl); (· (intro S hS0; simp -implicitDefEqProofs only [go_sem, hS0, *])); try simp -implicitDefEqProofs only [go_sem, List.set_cons_succ, List.set_cons_zero])
    (repeat' (first | ((with_reducible first | refine gon ?_ ?_ | refine gos ?_ ?_ | refine cdn ?_ ?_ | refine cds ?_ ?_ | refine gpn ?_ ?_ | refine gps ?_ ?_) <;> intro h <;> (try simp only [dt, df, gi, gt] at h) <;> try simp -implicitDefEqProofs only [go_sem, *]) | ((with_reducible refine And.intro ?_ ?_); (· first | omega | (simp only [List.length_take]; omega)); try simp -implicitDefEqProofs only [go_sem, *]) | first | ((with_reducible refine enter_pu (hback) ?_ ?_ ?_); (· rfl); (· rfl); try simp -implicitDefEqProofs only [go_sem, *]) | ((with_reducible refine enter_at1 [0, 1] (M2 := []) (hadd) (by decide) ?_ ?_ rfl ?_); (· repeat (first | exact Keeps.nil | (refine Keeps.cons _ _ _ _ _ rfl rfl ?_ ?_; (· first | exact a2_p _ _ | exact a2_1 rfl | exact a2_I _ _)))); (· repeat (first | exact All2.nil | (refine All2.cons _ _ _ _ ?_ ?_; (· first | exact rnT_eX rfl rfl | exact rnT_prim | exact rnT_sl | exact rnT_ref rfl | exact rnT_agg rfl | exact rnT_own rfl | exact rnT_eX5 rfl rfl)))); try simp -implicitDefEqProofs only [go_sem, *]) | ((with_reducible refine expG_end ?_ ?_); (· decide +kernel); try simp -implicitDefEqProofs only [go_sem, *]) | ((with_reducible refine expG_one 8 ?_ ?_); (· decide +kernel); try simp -implicitDefEqProofs only [go_sem, *]) | ((with_reducible refine expG_one 9 ?_ ?_); (· decide +kernel); try simp -implicitDefEqProofs only [go_sem, *]) | ((with_reducible refine expG_one 10 ?_ ?_); (· decide +kernel); try simp -implicitDefEqProofs only [go_sem, *]) | ((with_reducible refine expG_one 11 ?_ ?_); (· decide +kernel); try simp -implicitDefEqProofs only [go_sem, *]) | ((with_reducible refine expG_one 12 ?_ ?_); (· decide +kernel); try simp -implicitDefEqProofs only [go_sem, *]) | ((with_reducible refine expG_one 13 ?_ ?_); (· decide +kernel); try simp -implicitDefEqProofs only [go_sem, *]) | ((with_reducible refine expG_one 14 ?_ ?_); (· decide +kernel); try simp -implicitDefEqProofs only [go_sem, *]) | ((with_reducible refine expG_one 15 ?_ ?_); (· decide +kernel); try simp -implicitDefEqProofs only [go_sem, *]) | ((with_reducible refine expG_two 8 13 ?_ ?_ ?_); (· decide +kernel); all_goals (try simp -implicitDefEqProofs only [go_sem, *])) | ((with_reducible refine expG_two 9 13 ?_ ?_ ?_); (· decide +kernel); all_goals (try simp -implicitDefEqProofs only [go_sem, *])) | ((with_reducible refine expG_two 10 13 ?_ ?_ ?_); (· decide +kernel); all_goals (try simp -implicitDefEqProofs only [go_sem, *])) | ((with_reducible refine expG_two 11 13 ?_ ?_ ?_); (· decide +kernel); all_goals (try simp -implicitDefEqProofs only [go_sem, *])) | ((with_reducible refine expG_two 12 13 ?_ ?_ ?_); (· decide +kernel); all_goals (try simp -implicitDefEqProofs only [go_sem, *])) | ((with_reducible refine expG_two 11 12 ?_ ?_ ?_); (· decide +kernel); all_goals (try simp -implicitDefEqProofs only [go_sem, *])) | ((with_reducible refine expG_two 12 14 ?_ ?_ ?_); (· decide +kernel); all_goals (try simp -implicitDefEqProofs only [go_sem, *])) | ((with_reducible refine expG_two 14 15 ?_ ?_ ?_); (· decide +kernel); all_goals (try simp -implicitDefEqProofs only [go_sem, *])) | ((with_reducible refine expG_two 12 15 ?_ ?_ ?_); (· decide +kernel); all_goals (try simp -implicitDefEqProofs only [go_sem, *])) | ((with_reducible refine expG_three 11 12 13 ?_ ?_ ?_ ?_); (· decide +kernel); all_goals (try simp -implicitDefEqProofs only [go_sem, *])) | ((with_reducible refine expG_three 10 12 13 ?_ ?_ ?_ ?_); (· decide +kernel); all_goals (try simp -implicitDefEqProofs only [go_sem, *]))))
    all_goals exact fin_move [0, 1] [] (by simp) rfl (by decide) (keep2 rfl rfl (a2_p _ _) (a2_p _ _)) (hm2 rfl) (rnT_eX rfl rfl) ⟨rfl, rfl, rfl⟩
end
section
attribute [local go_sem] slt_r slt_I slt_p
@[go_sem] theorem opR_min {T : TypeId → Option TI} {tm : List AV} {S : Store} {x y : Operand} {ts : Array TypeId} : opR T tm S (.call ⟨.builtin .min, #[x, y], ts⟩) = maxR true (ev tm x) (ev tm y) := by
  simp only [opR, callR]
@[go_sem] theorem ite_tt {α : Type} {a b : α} : (if true = true then a else b) = a := rfl
@[go_sem] theorem ite_min {a b : Int} : (if b < a then b else a) = min a b := by omega
theorem l13Undo_c (e : Eng) (tx : Int) (hi : Inv e) : AFn1 Tryz.prog 135 [eX 0 1 e, I tx] (sO e) (.tup [eX 0 1 (e.undo tx).1, Bo (e.undo tx).2]) (sO (e.undo tx).1) [] := by
  have hd5 := hi.disk.len
  have hm5 := hi.mem.len
  have hlen := hi.len
  have hlb : e.log.length < 4611686018427387904 := by omega
  have h6 := l6In_fn tx 1 3
  have hl3 := l3Last_fn e.log tx hlb
  refine afn1_of Tryz.func135 rfl rfl ?_
  by_cases hd : e.down = true
  · have e1 : e.undo tx = (e, false) := if_neg (by simp [Eng.liveB, hd])
    rw [e1]
    obtain ⟨a, b, c, s, d⟩ := e
    simp only at hd hd5 hm5
    subst hd
    simp -implicitDefEqProofs only [go_sem, Tryz.f135]
    (repeat' (first | ((with_reducible first | refine gon ?_ ?_ | refine gos ?_ ?_ | refine cdn ?_ ?_ | refine cds ?_ ?_ | refine gpn ?_ ?_ | refine gps ?_ ?_) <;> intro h <;> (try simp only [dt, df, gi, gt] at h) <;> try simp -implicitDefEqProofs only [go_sem, *]) | ((with_reducible refine And.intro ?_ ?_); (· first | omega | (simp only [List.length_take]; omega)); try simp -implicitDefEqProofs only [go_sem, *]) | fail))
    exact fin_move [0, 1] [] (by simp) rfl (by decide) (keep2 rfl rfl (a2_p _ _) (a2_p _ _)) (hm2 rfl) (rnT_eXb (e := ⟨a, b, c, s, true⟩) rfl rfl) ⟨rfl, rfl, rfl⟩
  have hd' : e.down = false := by simpa using hd
  by_cases h1 : isIn tx 1 3 = true
  · rw [h1] at h6
    by_cases h2 : lastN e.log tx = 0
    · have e1 : e.undo tx = (e, false) := if_neg (by simp [Eng.liveB, h2])
      rw [e1]
      rw [h2] at hl3
      obtain ⟨a, b, c, s, d⟩ := e
      simp only at hd' hd5 hm5
      subst hd'
      simp -implicitDefEqProofs only [go_sem, Tryz.f135]
      (repeat' (first | ((with_reducible first | refine gon ?_ ?_ | refine gos ?_ ?_ | refine cdn ?_ ?_ | refine cds ?_ ?_ | refine gpn ?_ ?_ | refine gps ?_ ?_) <;> intro h <;> (try simp only [dt, df, gi, gt] at h) <;> try simp -implicitDefEqProofs only [go_sem, *]) | ((with_reducible refine And.intro ?_ ?_); (· first | omega | (simp only [List.length_take]; omega)); try simp -implicitDefEqProofs only [go_sem, *]) | first | ((with_reducible refine enter_pu (h6) ?_ ?_ ?_); (· rfl); (· rfl); try simp -implicitDefEqProofs only [go_sem, *]) | ((with_reducible refine enter_pu (hl3) ?_ ?_ ?_); (· rfl); (· rfl); try simp -implicitDefEqProofs only [go_sem, *])))
      exact fin_move [0, 1] [] (by simp) rfl (by decide) (keep2 rfl rfl (a2_p _ _) (a2_p _ _)) (hm2 rfl) (rnT_eXb (e := ⟨a, b, c, s, false⟩) rfl rfl) ⟨rfl, rfl, rfl⟩
    · have hlive : e.liveB tx = true := by simp [Eng.liveB, hd', h1, h2]
      have e1 : e.undo tx = (Eng.steps tx (needFor e.log tx) e, true) := if_pos hlive
      rw [e1]
      obtain ⟨-, ht, hl0⟩ := liveB_iff hlive
      have h2' : (((lastN e.log tx : Nat) : Int) == 0) = false := by rw [beq_eq_false_iff_ne]; omega
      have hdd : ∀ e' : Eng, True := fun _ => trivial
      obtain ⟨X, hX⟩ : ∃ X, Eng.steps tx (needFor e.log tx) e = X := ⟨_, rfl⟩
      rw [hX]
      simp -implicitDefEqProofs only [go_sem, Tryz.f135]
      (repeat' (first | ((with_reducible first | refine gon ?_ ?_ | refine gos ?_ ?_ | refine cdn ?_ ?_ | refine cds ?_ ?_ | refine gpn ?_ ?_ | refine gps ?_ ?_) <;> intro h <;> (try simp only [dt, df, gi, gt] at h) <;> try simp -implicitDefEqProofs only [go_sem, *]) | ((with_reducible refine And.intro ?_ ?_); (· first | omega | (simp only [List.length_take]; omega)); try simp -implicitDefEqProofs only [go_sem, *]) | first | ((with_reducible refine enter_pu (h6) ?_ ?_ ?_); (· rfl); (· rfl); try simp -implicitDefEqProofs only [go_sem, *]) | ((with_reducible refine enter_pu (hl3) ?_ ?_ ?_); (· rfl); (· rfl); try simp -implicitDefEqProofs only [go_sem, *])))
      rotate_left
      · exact absurd h hd
      refine cp_loop (fun e' : Eng => ⟨(eX 0 1 e :: I tx :: .ref 2 5 0 0 :: .any :: .ref 3 5 0 0 :: Bo false :: .any :: .any :: .any :: .any :: .any :: .any :: .any :: .any :: .any :: .any :: .any :: .any :: .any :: .any :: .any :: .any :: .any :: .any :: .any :: .any :: .any :: .any :: .any :: .any :: []), [oP e'.disk, oP e'.mem, some ⟨5, [eX 0 1 e']⟩, some ⟨5, [.agg [.prim (.slice none 0 0), .prim (.slice none 0 0), .prim (.slice none 0 0), I 0, Bo false]]⟩], []⟩) (fun e' => Inv e' ∧ Eng.steps tx (needFor e'.log tx) e' = X) (fun e' => needFor e'.log tx) e ?_ ?_ ?_
      · exact ⟨hi, hX⟩
      · refine wk_tm ?_; repeat (first | exact WL.nil | (with_reducible refine WL.any _ _ _ ?_) | (with_reducible refine WL.same _ _ _ ?_) | (refine WL.eq _ _ _ _ rfl ?_))
      · clear hl3 h2' h6 hd' hdd
        rintro e' ⟨hi', hX'⟩
        have hlb' : e'.log.length < 4611686018427387904 := by have := hi'.len; omega
        have hl3' := l3Last_fn e'.log tx hlb'
        rcases hl : lastN e'.log tx with _ | n
        · rw [hl] at hl3'
          have hz : needFor e'.log tx = 0 := needFor_zero.2 hl
          rw [hz] at hX'
          obtain rfl : e' = X := hX'
          clear hX
          simp -implicitDefEqProofs only [go_sem, true_and]
          (repeat' (first | ((with_reducible first | refine gon ?_ ?_ | refine gos ?_ ?_ | refine cdn ?_ ?_ | refine cds ?_ ?_ | refine gpn ?_ ?_ | refine gps ?_ ?_) <;> intro h <;> (try simp only [dt, df, gi, gt] at h) <;> try simp -implicitDefEqProofs only [go_sem, *]) | ((with_reducible refine And.intro ?_ ?_); (· first | omega | (simp only [List.length_take]; omega)); try simp -implicitDefEqProofs only [go_sem, *]) | first | ((with_reducible refine enter_pu (hl3') ?_ ?_ ?_); (· rfl); (· rfl); try simp -implicitDefEqProofs only [go_sem, *])))
          exact fin_move [0, 1] [] (by simp) rfl (by decide) (keep2 rfl rfl (a2_p _ _) (a2_p _ _)) (hm2 rfl) (rnT_eXb rfl rfl) ⟨rfl, rfl, rfl⟩
        · have hl0' : 0 < lastN e'.log tx := by omega
          rw [hl] at hl3'
          obtain ⟨hn, hf⟩ := step_need hi' ht hl0'
          have hs := step_added hi' ht hl0'
          have hstep := l13Step_c e' tx hi' ht
          have hn1 : ((n + 1 : Nat) : Int) > 0 := by omega
          simp -implicitDefEqProofs only [go_sem, true_and]
          (repeat' (first | ((with_reducible first | refine gon ?_ ?_ | refine gos ?_ ?_ | refine cdn ?_ ?_ | refine cds ?_ ?_ | refine gpn ?_ ?_ | refine gps ?_ ?_) <;> intro h <;> (try simp only [dt, df, gi, gt] at h) <;> try simp -implicitDefEqProofs only [go_sem, *]) | ((with_reducible refine And.intro ?_ ?_); (· first | omega | (simp only [List.length_take]; omega)); try simp -implicitDefEqProofs only [go_sem, *]) | first | ((with_reducible refine enter_pu (hl3') ?_ ?_ ?_); (· rfl); (· rfl); try simp -implicitDefEqProofs only [go_sem, *]) | ((with_reducible refine enter_at1 [0, 1] (M2 := []) (hstep) (by decide) ?_ ?_ rfl ?_); (· repeat (first | exact Keeps.nil | (refine Keeps.cons _ _ _ _ _ rfl rfl ?_ ?_; (· first | exact a2_p _ _ | exact a2_1 rfl | exact a2_I _ _)))); (· repeat (first | exact All2.nil | (refine All2.cons _ _ _ _ ?_ ?_; (· first | exact rnT_eX rfl rfl | exact rnT_prim | exact rnT_sl | exact rnT_ref rfl | exact rnT_agg rfl | exact rnT_own rfl | exact rnT_eX5 rfl rfl)))); try simp -implicitDefEqProofs only [go_sem, *])))
          refine ⟨e'.added (e'.stepR tx), ⟨by rw [← hs]; exact step_inv hi' ht, ?_⟩, ?_, ?_⟩
          · rw [← hX', ← hn, Eng.steps, hs]; rfl
          · show needFor (e'.alog (e'.stepR tx)) tx < _
            omega
          · refine wk_tm ?_; repeat (first | exact WL.nil | (with_reducible refine WL.any _ _ _ ?_) | (with_reducible refine WL.same _ _ _ ?_) | (refine WL.eq _ _ _ _ rfl ?_))
  · have h1' : isIn tx 1 3 = false := by simpa using h1
    rw [h1'] at h6
    have e1 : e.undo tx = (e, false) := if_neg (by simp [Eng.liveB, h1'])
    rw [e1]
    obtain ⟨a, b, c, s, d⟩ := e
    simp only at hd' hd5 hm5
    subst hd'
    simp -implicitDefEqProofs only [go_sem, Tryz.f135]
    (repeat' (first | ((with_reducible first | refine gon ?_ ?_ | refine gos ?_ ?_ | refine cdn ?_ ?_ | refine cds ?_ ?_ | refine gpn ?_ ?_ | refine gps ?_ ?_) <;> intro h <;> (try simp only [dt, df, gi, gt] at h) <;> try simp -implicitDefEqProofs only [go_sem, *]) | ((with_reducible refine And.intro ?_ ?_); (· first | omega | (simp only [List.length_take]; omega)); try simp -implicitDefEqProofs only [go_sem, *]) | first | ((with_reducible refine enter_pu (h6) ?_ ?_ ?_); (· rfl); (· rfl); try simp -implicitDefEqProofs only [go_sem, *])))
    exact fin_move [0, 1] [] (by simp) rfl (by decide) (keep2 rfl rfl (a2_p _ _) (a2_p _ _)) (hm2 rfl) (rnT_eXb (e := ⟨a, b, c, s, false⟩) rfl rfl) ⟨rfl, rfl, rfl⟩
theorem l21First_fn (l : List Rc) (hb : l.length < 4611686018427387904) : Fn1 Tryz.prog 151 [recs l] (I (firstN l)) := by
  refine fn1_of Tryz.func151 rfl rfl ?_
  simp -implicitDefEqProofs only [go_sem, Tryz.f151]
  refine cp_loop (fun t : Nat => ⟨(recs l :: .any :: I 0 :: I (((t + 1 : Nat) : Int)) :: .any :: .any :: .any :: .any :: .any :: .any :: .any :: .any :: .any :: []), [], []⟩) (fun t => t ≤ 3 ∧ firstFrom l t = firstN l) (fun t => 3 - t) 0 ?_ ?_ ?_
  · exact ⟨by omega, rfl⟩
  · refine wk_tm ?_; repeat (first | exact WL.nil | (with_reducible refine WL.any _ _ _ ?_) | (with_reducible refine WL.same _ _ _ ?_) | (refine WL.eq _ _ _ _ rfl ?_))
  · rintro t ⟨hi, hg⟩
    have hbt : t + 1 < 4611686018427387904 := by omega
    have hl3 := l3Last_fn l ((t + 1 : Nat) : Int) hb
    simp -implicitDefEqProofs only [go_sem, true_and]
    (repeat' (first | ((with_reducible first | refine gon ?_ ?_ | refine gos ?_ ?_ | refine cdn ?_ ?_ | refine cds ?_ ?_ | refine gpn ?_ ?_ | refine gps ?_ ?_) <;> intro h <;> (try simp only [dt, df, gi, gt] at h) <;> try simp -implicitDefEqProofs only [go_sem, *]) | ((with_reducible refine And.intro ?_ ?_); (· first | omega | (simp only [List.length_take]; omega)); try simp -implicitDefEqProofs only [go_sem, *]) | first | ((with_reducible refine enter_pu (hl3) ?_ ?_ ?_); (· rfl); (· rfl); try simp -implicitDefEqProofs only [go_sem, *])))
    all_goals first
      | ((with_reducible refine fin_pu ?_ ?_); (· (rw [← hg, firstFrom_lt (by omega : t < 3)]; clear hg; simp_all; done)); (· rfl))
      | ((with_reducible refine fin_pu ?_ ?_); (· (rw [← hg, firstFrom_ge (by omega : ¬ t < 3)]; rfl)); (· rfl))
      | ((with_reducible refine ⟨t + 1, ⟨by omega, ?_⟩, by omega, ?_⟩); (· (rw [← hg, firstFrom_lt (by omega : t < 3)]; clear hg; simp_all)); (· refine wk_tm ?_; repeat (first | exact WL.nil | (with_reducible refine WL.any _ _ _ ?_) | (with_reducible refine WL.same _ _ _ ?_) | (refine WL.eq _ _ _ _ rfl ?_))))
end
section
attribute [local go_sem] slt_r slt_I slt_p
@[go_sem] theorem putS_new1 {ρ : Nat → Nat} {o : Option AObj} {T : Store} : putS ρ [] [o] T = T ++ [rnO ρ o] := rfl
@[go_sem] theorem rho11 {a n : Nat} : rho [a] n 1 = n := by simp [rho]
theorem CopyPages_c (ps : List Pg) (hs : Sz ps) : AFn1 Tryz.prog 70 [.own 0 3 0 5] [oP ps] (.own 1 3 0 5) [oP ps, oP ps] [] := by
  have h5 := hs.len
  refine afn1_of Tryz.func70 rfl rfl ?_
  simp -implicitDefEqProofs only [go_sem, Tryz.f70]
  refine cp_loop (fun i : Nat => ⟨(.own 0 3 0 5 :: .any :: nilS :: .own 1 3 0 i :: I (i : Int) :: .any :: .any :: .any :: .any :: .any :: .any :: .any :: .any :: .any :: .any :: .any :: .any :: .any :: .any :: .any :: .any :: []), [oP ps, some ⟨3, (ps.take i).map pA⟩], [1]⟩) (fun i => i ≤ ps.length) (fun i => ps.length - i) 0 ?_ ?_ ?_
  · simp
  · refine WkN.trans (wk_tm ?_) (wk_mv (by simp))
    repeat (first | exact WL.nil | (with_reducible refine WL.any _ _ _ ?_) | (with_reducible refine WL.same _ _ _ ?_) | (refine WL.eq _ _ _ _ rfl ?_))
  · rintro i hi
    have hb' : i < 4611686018427387904 := by omega
    by_cases hil : i < ps.length
    · have hl1 : (i : Int) < ((5 : Nat) : Int) := by omega
      have hsz := hs.sz i (by omega)
      have hcp := l1Copy_fn (at' ps (i : Int)) (by omega)
      simp -implicitDefEqProofs only [go_sem, hl1]
      (repeat' (first | ((with_reducible first | refine gon ?_ ?_ | refine gos ?_ ?_ | refine cdn ?_ ?_ | refine cds ?_ ?_ | refine gpn ?_ ?_ | refine gps ?_ ?_) <;> intro h <;> (try simp only [dt, df, gi, gt] at h) <;> try simp -implicitDefEqProofs only [go_sem, *]) | ((with_reducible refine And.intro ?_ ?_); (· first | omega | (simp only [List.length_take]; omega)); try simp -implicitDefEqProofs only [go_sem, *]) | ((with_reducible refine enter_pu (hcp) ?_ ?_ ?_); (· rfl); (· rfl); try simp -implicitDefEqProofs only [go_sem, *])))
      have e : List.take i ps ++ [(⟨(at' ps (i : Int)).lsn, (at' ps (i : Int)).owner, (at' ps (i : Int)).vals⟩ : Pg)] = List.take (i + 1) ps := take_at ps i (by omega)
      rw [e]
      refine ⟨i + 1, by omega, by omega, ?_⟩
      refine WkN.trans (WkN.trans (wk_tm ?_) (wk_trunc (S := [oP ps, some ⟨3, (ps.take (i + 1)).map pA⟩]) (Nat.le_refl _) rfl (by first | rfl | (simp only [sltB, List.all_cons, List.all_nil, slt_p, slt_I, slt_r, Bool.and_true]; done) | (simp only [sltB, List.all_cons, List.all_nil, slt_p, slt_I, slt_r, Bool.and_true]; rfl)))) (wk_mv (by simp)); repeat (first | exact WL.nil | (with_reducible refine WL.any _ _ _ ?_) | (with_reducible refine WL.same _ _ _ ?_) | (refine WL.eq _ _ _ _ rfl ?_))
    · have hl1 : ¬ (i : Int) < ((5 : Nat) : Int) := by omega
      have e : i = ps.length := by omega
      simp -implicitDefEqProofs only [go_sem, hl1]
      (repeat' (first | ((with_reducible first | refine gon ?_ ?_ | refine gos ?_ ?_ | refine cdn ?_ ?_ | refine cds ?_ ?_ | refine gpn ?_ ?_ | refine gps ?_ ?_) <;> intro h <;> (try simp only [dt, df, gi, gt] at h) <;> try simp -implicitDefEqProofs only [go_sem, *]) | ((with_reducible refine And.intro ?_ ?_); (· first | omega | (simp only [List.length_take]; omega)); try simp -implicitDefEqProofs only [go_sem, *]) | fail))
      rw [show List.take i ps = ps by rw [e, List.take_length], show i = 5 by omega]
      exact fin_move [0, 1] [] (by simp) rfl (by decide) (keep2 rfl rfl (a2_p _ _) (a2_p _ _)) (fun i hi _ => by
        have : i = 0 := by omega
        subst this
        exact ⟨rfl, rfl⟩) (rt_own _ rfl) ⟨rfl, rfl, rfl⟩
end
section
attribute [local go_sem] slt_r slt_I slt_p
theorem rnT_own {K : List Nat} {i j z o l : Nat} (h : K[j]? = some i) : RnT K (.own i z o l) (.own j z o l) := .of _ _ (.of _ _ (.own _ _ _ _ _ h))
theorem rnT_eX5 {K : List Nat} {a b i j : Nat} {l : List Rc} {s : Int} {d : Bool} (h0 : K[a]? = some i) (h1 : K[b]? = some j) : RnT K (.agg [.own i 3 0 5, .own j 3 0 5, recs l, I s, Bo d]) (.agg [.own a 3 0 5, .own b 3 0 5, recs l, I s, Bo d]) :=
  .of _ _ (.agg _ _ (.cons _ _ _ _ (.own _ _ _ _ _ h0) (.cons _ _ _ _ (.own _ _ _ _ _ h1) (.cons _ _ _ _ (.same _ rfl) (.cons _ _ _ _ (.same _ rfl) (.cons _ _ _ _ (.same _ rfl) .nil))))))
theorem Redo_c (ps : List Pg) (l : List Rc) (hp : Sz ps) (hw : Wf l) : AFn1 Tryz.prog 34 [.own 0 3 0 5, recs l] [oP ps] (.own 1 3 0 5) [oP ps, oP (redoTo ps l l.length)] [] := by
  have hlen := hw.len
  have hp5 := hp.len
  have hcp := CopyPages_c ps hp
  refine afn1_of Tryz.func34 rfl rfl ?_
  simp -implicitDefEqProofs only [go_sem, Tryz.f34]
  (repeat' (first | ((with_reducible first | refine gon ?_ ?_ | refine gos ?_ ?_ | refine cdn ?_ ?_ | refine cds ?_ ?_ | refine gpn ?_ ?_ | refine gps ?_ ?_) <;> intro h <;> (try simp only [dt, df, gi, gt] at h) <;> try simp -implicitDefEqProofs only [go_sem, *]) | ((with_reducible refine And.intro ?_ ?_); (· first | omega | (simp only [List.length_take]; omega)); try simp -implicitDefEqProofs only [go_sem, *]) | ((with_reducible refine enter_at1 [0] (M2 := []) (hcp) (by decide) ?_ ?_ rfl ?_); (· repeat (first | exact Keeps.nil | (refine Keeps.cons _ _ _ _ _ rfl rfl ?_ ?_; (· first | exact a2_p _ _ | exact a2_1 rfl | exact a2_I _ _)))); (· repeat (first | exact All2.nil | (refine All2.cons _ _ _ _ ?_ ?_; (· first | exact rnT_eX rfl rfl | exact rnT_prim | exact rnT_sl | exact rnT_ref rfl | exact rnT_agg rfl | exact rnT_own rfl | exact rnT_eX5 rfl rfl)))); try simp -implicitDefEqProofs only [go_sem, *])))
  refine cp_loop (fun i : Nat => ⟨(.own 0 3 0 5 :: recs l :: .any :: .any :: nilS :: .own 1 3 0 5 :: I (i : Int) :: .any :: .any :: .any :: .any :: .any :: .any :: .any :: .any :: .any :: .any :: .any :: .any :: .any :: .any :: .any :: .any :: .any :: .any :: .any :: .any :: .any :: .any :: .any :: .any :: .any :: .any :: .any :: .any :: .any :: .any :: .any :: .any :: .any :: .any :: .any :: .any :: .any :: .any :: .any :: .any :: .any :: []), [oP ps, oP (redoTo ps l i)], []⟩) (fun i => i ≤ l.length) (fun i => l.length - i) 0 ?_ ?_ ?_
  · simp
  · refine wk_tm ?_
    repeat (first | exact WL.nil | (with_reducible refine WL.any _ _ _ ?_) | (with_reducible refine WL.same _ _ _ ?_) | (refine WL.eq _ _ _ _ rfl ?_))
  · rintro i hi
    have hb' : i < 4611686018427387904 := by omega
    by_cases hil : i < l.length
    · have hs := redoTo_sz hp hw i hi
      have hs5 := hs.len
      have hok := hw.rok i hil
      obtain ⟨m, hm, hpg⟩ := Rc.ok_page hok
      have hsl := Rc.ok_slot hok
      have hsz : (at' (redoTo ps l i) (at' l (i : Int)).page).vals.length = 3 := by rw [hpg]; exact hs.sz m (by omega)
      have h0 : 0 ≤ (at' l (i : Int)).page := by omega
      have h4 : (at' l (i : Int)).page ≤ 4 := by omega
      clear hpg
      simp -implicitDefEqProofs only [go_sem, h0]
      (repeat' (first | ((with_reducible first | refine gon ?_ ?_ | refine gos ?_ ?_ | refine cdn ?_ ?_ | refine cds ?_ ?_ | refine gpn ?_ ?_ | refine gps ?_ ?_) <;> intro h <;> (try simp only [dt, df, gi, gt] at h) <;> try simp -implicitDefEqProofs only [go_sem, *]) | ((with_reducible refine And.intro ?_ ?_); (· first | omega | (simp only [List.length_take]; omega)); try simp -implicitDefEqProofs only [go_sem, *]) | first | ((with_reducible refine enter_pu (l2Changes_fn _) ?_ ?_ ?_); (· rfl); (· rfl); try simp -implicitDefEqProofs only [go_sem, *]) | ((with_reducible refine cp_draw (id := 7) 13 mixed ?_ ?_ ?_); (· decide +kernel); (· first | (simp only [List.all_cons, List.all_nil, List.length_cons, List.length_nil, Nat.reduceAdd, Nat.reduceLT, decide_true, Bool.and_true, Bool.and_self]; done) | rfl); try simp -implicitDefEqProofs only [go_sem, *]) | ((with_reducible refine pre_enter _ (det_pu (l2Do_fn (at' (redoTo ps l i) (at' l (i : Int)).page) (at' l (i : Int)) _ hsz hsl.2) ?_ ?_) ?_ ?_); (· rfl); (· rfl); (· rfl); try simp -implicitDefEqProofs only [go_sem, *])))
      all_goals first
        | (exfalso; omega)
        | (rename_i h1 h2
           have e : redoTo ps l (i + 1) = (redoTo ps l i).set (at' l (i : Int)).page.toNat (doP (at' (redoTo ps l i) (at' l (i : Int)).page) (at' l (i : Int)) ((i + 1 : Nat) : Int)) := if_pos ⟨h2, h⟩
           refine ⟨i + 1, by omega, by omega, ?_⟩
           rw [e]
           refine WkN.trans (wk_tm ?_) (wk_trunc (S := [oP ps, some ⟨3, _⟩]) (Nat.le_refl _) rfl (by first | rfl | (simp only [sltB, List.all_cons, List.all_nil, slt_p, slt_I, slt_r, Bool.and_true]; done) | (simp only [sltB, List.all_cons, List.all_nil, slt_p, slt_I, slt_r, Bool.and_true]; rfl))); repeat (first | exact WL.nil | (with_reducible refine WL.any _ _ _ ?_) | (with_reducible refine WL.same _ _ _ ?_) | (refine WL.eq _ _ _ _ rfl ?_)))
        | (have e : redoTo ps l (i + 1) = redoTo ps l i := if_neg (by simp_all)
           refine ⟨i + 1, by omega, by omega, ?_⟩
           rw [e]
           refine WkN.trans (wk_tm ?_) (wk_trunc (S := [oP ps, some ⟨3, _⟩]) (Nat.le_refl _) rfl (by first | rfl | (simp only [sltB, List.all_cons, List.all_nil, slt_p, slt_I, slt_r, Bool.and_true]; done) | (simp only [sltB, List.all_cons, List.all_nil, slt_p, slt_I, slt_r, Bool.and_true]; rfl))); repeat (first | exact WL.nil | (with_reducible refine WL.any _ _ _ ?_) | (with_reducible refine WL.same _ _ _ ?_) | (refine WL.eq _ _ _ _ rfl ?_)))
    · have hni : ¬ ((i : Int) < (l.length : Int)) := by omega
      simp -implicitDefEqProofs only [go_sem, hni]
      have e : i = l.length := by omega
      subst e
      exact fin_move [0, 1] [] (by simp) rfl (by decide) (keep2 rfl rfl (a2_p _ _) (a2_p _ _)) (fun i hi _ => by
        have : i = 0 := by omega
        subst this
        exact ⟨rfl, rfl⟩) (rt_own _ rfl) ⟨rfl, rfl, rfl⟩
theorem hd2x {k : Nat} {S : Store} {mv : List Nat} {o1 o2 : AObj} (h1 : getO S 0 = some o1) (h2 : getO S 1 = some o2) (n1 : o1.es ≠ []) (n2 : o2.es ≠ []) (m0 : mv.contains 0 = false) (m1 : mv.contains 1 = false) :
    ∀ i, i < 2 → mv.contains i = false ∧ (∃ o, getO S i = some o ∧ o.es ≠ []) ∧ ([1].contains i = false → [0, k][i]? = some i) := by
  intro i hi
  have hi2 : i = 0 ∨ i = 1 := by omega
  rcases hi2 with rfl | rfl
  · exact ⟨m0, ⟨_, h1, n1⟩, fun _ => rfl⟩
  · exact ⟨m1, ⟨_, h2, n2⟩, fun h => by cases h⟩
theorem l21Fall_c (e : Eng) (left : Int) (hi : Inv e) (hl : 0 ≤ left) : AFn1 Tryz.prog 137 [eX 0 1 e, I left] (sO e) (eX 0 1 (e.fall left)) (sO (e.fall left)) [1] := by
  have hd5 := hi.disk.len
  have hm5 := hi.mem.len
  have hlen := hi.len
  have hs := hi.safe
  have hcp := CopyPages_c e.disk hi.disk.sz
  have hk : 0 ≤ e.many left ∧ e.many left ≤ e.log.length := by unfold Eng.many; omega
  have hk2 : max e.safe (min left (e.log.length : Int)) = e.many left := rfl
  refine afn1_of Tryz.func137 rfl rfl ?_
  simp -implicitDefEqProofs only [go_sem, Tryz.f137]
  (repeat' (first | ((with_reducible first | refine gon ?_ ?_ | refine gos ?_ ?_ | refine cdn ?_ ?_ | refine cds ?_ ?_ | refine gpn ?_ ?_ | refine gps ?_ ?_) <;> intro h <;> (try simp only [dt, df, gi, gt] at h) <;> try simp -implicitDefEqProofs only [go_sem, *]) | ((with_reducible refine And.intro ?_ ?_); (· first | omega | (simp only [List.length_take]; omega)); try simp -implicitDefEqProofs only [go_sem, *]) | first | ((with_reducible refine enter_at1 [0] (M2 := []) (hcp) (by decide) ?_ ?_ rfl ?_); (· repeat (first | exact Keeps.nil | (refine Keeps.cons _ _ _ _ _ rfl rfl ?_ ?_; (· first | exact a2_p _ _ | exact a2_1 rfl | exact a2_I _ _)))); (· repeat (first | exact All2.nil | (refine All2.cons _ _ _ _ ?_ ?_; (· first | exact rnT_eX rfl rfl | exact rnT_prim | exact rnT_sl | exact rnT_ref rfl | exact rnT_agg rfl | exact rnT_own rfl | exact rnT_eX5 rfl rfl)))); try simp -implicitDefEqProofs only [go_sem, *])))
  refine fin_drop [0, 5] [1] (by simp) rfl (by decide) (keep2 rfl rfl (a2_p _ _) (a2_p _ _)) (hd2x rfl rfl (ne5 hd5) (ne5 hm5) rfl rfl)
    (.of _ _ (rd_eX (k := 4) (e := e.fall left) rfl rfl (by decide) (by decide) rfl rfl)) ⟨rfl, rfl, rfl⟩
theorem upGo_0 {n : Nat} {e : Eng} (h : firstN e.log = 0) : Eng.upGo n e = e := by
  cases n with
  | zero => rfl
  | succ n => rw [Eng.upGo, if_pos h]
theorem hm2x {k : Nat} {mv : List Nat} (m0 : mv.contains 0 = false) : ∀ i, i < 2 → [1].contains i = false → [0, k][i]? = some i ∧ mv.contains i = false := by
  intro i hi h
  have hi2 : i = 0 ∨ i = 1 := by omega
  rcases hi2 with rfl | rfl
  · exact ⟨rfl, m0⟩
  · cases h
theorem l21Up_c (e : Eng) (steps : Int) (hi : Inv e) (hs : steps < 4611686018427387904) : AFn1 Tryz.prog 138 [eX 0 1 e, I steps] (sO e) (.tup [eX 0 1 (e.up steps).1, Bo (e.up steps).2]) (sO (e.up steps).1) [1] := by
  have hd5 := hi.disk.len
  have hm5 := hi.mem.len
  have hlen := hi.len
  have hrd := Redo_c e.disk e.log hi.disk.sz hi.wf
  have hir := redone_inv hi
  obtain ⟨X, hX⟩ : ∃ X, e.up1 steps = X := ⟨_, rfl⟩
  refine afn1_of Tryz.func138 rfl rfl ?_
  simp -implicitDefEqProofs only [go_sem, Tryz.f138]
  (repeat' (first | ((with_reducible first | refine gon ?_ ?_ | refine gos ?_ ?_ | refine cdn ?_ ?_ | refine cds ?_ ?_ | refine gpn ?_ ?_ | refine gps ?_ ?_) <;> intro h <;> (try simp only [dt, df, gi, gt] at h) <;> try simp -implicitDefEqProofs only [go_sem, *]) | ((with_reducible refine And.intro ?_ ?_); (· first | omega | (simp only [List.length_take]; omega)); try simp -implicitDefEqProofs only [go_sem, *]) | first | ((with_reducible refine enter_at1 [0] (M2 := []) (hrd) (by decide) ?_ ?_ rfl ?_); (· repeat (first | exact Keeps.nil | (refine Keeps.cons _ _ _ _ _ rfl rfl ?_ ?_; (· first | exact a2_p _ _ | exact a2_1 rfl | exact a2_I _ _)))); (· repeat (first | exact All2.nil | (refine All2.cons _ _ _ _ ?_ ?_; (· first | exact rnT_eX rfl rfl | exact rnT_prim | exact rnT_sl | exact rnT_ref rfl | exact rnT_agg rfl | exact rnT_own rfl | exact rnT_eX5 rfl rfl)))); try simp -implicitDefEqProofs only [go_sem, *])))
  refine cp_loop (fun p : Nat × Eng => ⟨(eX 0 1 e :: I steps :: .ref 2 5 0 0 :: .any :: .ref 3 5 0 0 :: Bo false :: I (p.1 : Int) :: .any :: .any :: .any :: .any :: .any :: .any :: .any :: .any :: .any :: .any :: .any :: .any :: .any :: .any :: .any :: .any :: .any :: .any :: .any :: .any :: .any :: .any :: .any :: .any :: .any :: .any :: .any :: .any :: .any :: .any :: .any :: .any :: .any :: []), [oP p.2.disk, oP e.mem, some ⟨5, [eX 0 4 p.2]⟩, some ⟨5, [.agg [.prim (.slice none 0 0), .prim (.slice none 0 0), .prim (.slice none 0 0), I 0, Bo false]]⟩, oP p.2.mem], []⟩)
    (fun p => Inv p.2 ∧ p.1 ≤ steps.toNat ∧ Eng.upGo (steps.toNat - p.1) p.2 = X) (fun p => steps.toNat - p.1) (0, e.redone) ?_ ?_ ?_
  · exact ⟨hir, Nat.zero_le _, hX⟩
  · refine wk_tm ?_; repeat (first | exact WL.nil | (with_reducible refine WL.any _ _ _ ?_) | (with_reducible refine WL.same _ _ _ ?_) | (refine WL.eq _ _ _ _ rfl ?_))
  · rintro ⟨i, c⟩ ⟨hic, hin, hg⟩
    simp only at hic hin hg
    have hcl := hic.len
    have hcd := hic.disk.len
    have hcm := hic.mem.len
    have hf := l21First_fn c.log (by omega)
    have hfl := firstN_le c.log
    have hib : i < 4611686018427387904 := by omega
    have e0 : firstN c.log = 0 → e.up1 steps = c → e.up steps = (⟨c.disk, c.mem, c.log, c.safe, false⟩, true) := fun h1 h2 => by unfold Eng.up; rw [h2, if_pos h1]
    have e1 : firstN c.log ≠ 0 → e.up1 steps = c → e.up steps = (⟨c.disk, c.disk, c.log, c.safe, c.down⟩, false) := fun h1 h2 => by unfold Eng.up; rw [h2, if_neg h1]
    by_cases h2 : firstN c.log = 0
    · rw [upGo_0 h2] at hg
      subst hg
      rw [e0 h2 hX]
      rw [h2] at hf
      clear e0 e1 hX h2
      by_cases h1 : (i : Int) < steps
      all_goals
        simp -implicitDefEqProofs only [go_sem, h1]
        (repeat' (first | ((with_reducible first | refine gon ?_ ?_ | refine gos ?_ ?_ | refine cdn ?_ ?_ | refine cds ?_ ?_ | refine gpn ?_ ?_ | refine gps ?_ ?_) <;> intro h <;> (try simp only [dt, df, gi, gt] at h) <;> try simp -implicitDefEqProofs only [go_sem, *]) | ((with_reducible refine And.intro ?_ ?_); (· first | omega | (simp only [List.length_take]; omega)); try simp -implicitDefEqProofs only [go_sem, *]) | first | ((with_reducible refine enter_own (hf) ?_ rfl rfl ?_); (· repeat (first | exact All2.nil | (refine All2.cons _ _ _ _ ?_ ?_; (· first | exact arg_same rfl | exact arg_eX5 rfl rfl (by first | omega | (simp; omega)) (by first | omega | (simp; omega)) | exact arg_eX rfl rfl (by first | omega | (simp; omega)) (by first | omega | (simp; omega)) | exact .of1 _ _ (.of0 _ _ (arg0_r rfl (by simp))))))); try simp -implicitDefEqProofs only [go_sem, *])))
        exact fin_move [0, 4] [1] (by simp) rfl (by decide) (keep2 rfl rfl (a2_p _ _) (a2_p _ _)) (hm2x rfl) (rnT_eXb (e := ⟨c.disk, c.mem, c.log, c.safe, false⟩) rfl rfl) ⟨rfl, rfl, rfl⟩
    · have h2' : (0 : Int) < (firstN c.log : Int) := by omega
      by_cases h1 : (i : Int) < steps
      · have hstep := l13Step_c c (firstN c.log) hic (by omega)
        have hinv := step_inv hic (tx := (firstN c.log : Int)) (by omega)
        clear e0 e1
        simp -implicitDefEqProofs only [go_sem, h1]
        (repeat' (first | ((with_reducible first | refine gon ?_ ?_ | refine gos ?_ ?_ | refine cdn ?_ ?_ | refine cds ?_ ?_ | refine gpn ?_ ?_ | refine gps ?_ ?_) <;> intro h <;> (try simp only [dt, df, gi, gt] at h) <;> try simp -implicitDefEqProofs only [go_sem, *]) | ((with_reducible refine And.intro ?_ ?_); (· first | omega | (simp only [List.length_take]; omega)); try simp -implicitDefEqProofs only [go_sem, *]) | first | ((with_reducible refine enter_own (hf) ?_ rfl rfl ?_); (· repeat (first | exact All2.nil | (refine All2.cons _ _ _ _ ?_ ?_; (· first | exact arg_same rfl | exact arg_eX5 rfl rfl (by first | omega | (simp; omega)) (by first | omega | (simp; omega)) | exact arg_eX rfl rfl (by first | omega | (simp; omega)) (by first | omega | (simp; omega)) | exact .of1 _ _ (.of0 _ _ (arg0_r rfl (by simp))))))); try simp -implicitDefEqProofs only [go_sem, *]) | ((with_reducible refine cp_draw2 (id := 5) 4 2 mixed ?_ ?_ ?_ ?_); (· decide +kernel); (· first | (simp only [List.all_cons, List.all_nil, List.length_cons, List.length_nil, Nat.reduceAdd, Nat.reduceLT, decide_true, Bool.and_true, Bool.and_self]; done) | rfl); (· rfl); try simp -implicitDefEqProofs only [go_sem, List.append_nil, *]) | ((with_reducible refine pre_enter _ (det_pu (hf) ?_ ?_) ?_ ?_); (· rfl); (· rfl); (· rfl); try simp -implicitDefEqProofs only [go_sem, *]) | ((with_reducible refine exp_one 4 ?_ ?_); (· decide +kernel); try simp -implicitDefEqProofs only [go_sem, *]) | ((with_reducible refine exp_one 5 ?_ ?_); (· decide +kernel); try simp -implicitDefEqProofs only [go_sem, *]) | ((with_reducible refine exp_end ?_ ?_); (· decide +kernel); try simp -implicitDefEqProofs only [go_sem, *]) | ((with_reducible refine enter_at1 [0, 4] (M2 := []) (hstep) (by decide) ?_ ?_ rfl ?_); (· repeat (first | exact Keeps.nil | (refine Keeps.cons _ _ _ _ _ rfl rfl ?_ ?_; (· first | exact a2_p _ _ | exact a2_1 rfl | exact a2_I _ _)))); (· repeat (first | exact All2.nil | (refine All2.cons _ _ _ _ ?_ ?_; (· first | exact rnT_eX rfl rfl | exact rnT_prim | exact rnT_sl | exact rnT_ref rfl | exact rnT_agg rfl | exact rnT_own rfl | exact rnT_eX5 rfl rfl)))); try simp -implicitDefEqProofs only [go_sem, *])))
        refine ⟨(i + 1, c.step (firstN c.log)), ⟨hinv, by simp only; omega, ?_⟩, by simp only; omega, ?_⟩
        · rw [← hg]
          simp only
          rw [show steps.toNat - i = (steps.toNat - (i + 1)) + 1 by omega, Eng.upGo, if_neg h2]
        · refine wk_tm ?_; repeat (first | exact WL.nil | (with_reducible refine WL.any _ _ _ ?_) | (with_reducible refine WL.same _ _ _ ?_) | (refine WL.eq _ _ _ _ rfl ?_))
      · rw [show steps.toNat - i = 0 by omega] at hg
        obtain rfl : c = X := hg
        rw [e1 h2 hX]
        have hcp := CopyPages_c c.disk hic.disk.sz
        clear e0 e1 hX
        simp -implicitDefEqProofs only [go_sem, h1]
        (repeat' (first | ((with_reducible first | refine gon ?_ ?_ | refine gos ?_ ?_ | refine cdn ?_ ?_ | refine cds ?_ ?_ | refine gpn ?_ ?_ | refine gps ?_ ?_) <;> intro h <;> (try simp only [dt, df, gi, gt] at h) <;> try simp -implicitDefEqProofs only [go_sem, *]) | ((with_reducible refine And.intro ?_ ?_); (· first | omega | (simp only [List.length_take]; omega)); try simp -implicitDefEqProofs only [go_sem, *]) | first | ((with_reducible refine enter_own (hf) ?_ rfl rfl ?_); (· repeat (first | exact All2.nil | (refine All2.cons _ _ _ _ ?_ ?_; (· first | exact arg_same rfl | exact arg_eX5 rfl rfl (by first | omega | (simp; omega)) (by first | omega | (simp; omega)) | exact arg_eX rfl rfl (by first | omega | (simp; omega)) (by first | omega | (simp; omega)) | exact .of1 _ _ (.of0 _ _ (arg0_r rfl (by simp))))))); try simp -implicitDefEqProofs only [go_sem, *]) | ((with_reducible refine enter_at1 [0] (M2 := []) (hcp) (by decide) ?_ ?_ rfl ?_); (· repeat (first | exact Keeps.nil | (refine Keeps.cons _ _ _ _ _ rfl rfl ?_ ?_; (· first | exact a2_p _ _ | exact a2_1 rfl | exact a2_I _ _)))); (· repeat (first | exact All2.nil | (refine All2.cons _ _ _ _ ?_ ?_; (· first | exact rnT_eX rfl rfl | exact rnT_prim | exact rnT_sl | exact rnT_ref rfl | exact rnT_agg rfl | exact rnT_own rfl | exact rnT_eX5 rfl rfl)))); try simp -implicitDefEqProofs only [go_sem, *])))
        exact fin_move [0, 5] [1] (by simp) rfl (by decide) (keep2 rfl rfl (a2_p _ _) (a2_p _ _)) (hm2x rfl) (rnT_eXb (e := ⟨c.disk, c.disk, c.log, c.safe, c.down⟩) rfl rfl) ⟨rfl, rfl, rfl⟩
end
section
attribute [local go_sem] slt_r slt_I slt_p
theorem valsB_lt {vals : List Int} {i : Nat} (h : i < vals.length) : allFrom (fun k => isIn (at' vals k) 0 9) i vals.length = (isIn (at' vals (i : Int)) 0 9 && allFrom (fun k => isIn (at' vals k) 0 9) (i + 1) vals.length) := allFrom_lt h
theorem a2_fz {k : Nat} {o : AObj} (l : List AV) : All2 (Fz1 k o) l l := by
  induction l with
  | nil => exact .nil
  | cons x l ih => exact .cons _ _ _ _ (.of _ _ (.same x)) ih
theorem a2_set {k : Nat} {o : AObj} {x y : AV} (h : Fz1 k o x y) : ∀ (l : List AV) (j : Nat), All2 (Fz1 k o) (l.set j x) (l.set j y)
  | [], _ => .nil
  | a :: l, 0 => .cons _ _ _ _ h (a2_fz l)
  | a :: l, j + 1 => .cons _ _ _ _ (.of _ _ (.same a)) (a2_set h l j)
theorem set_pA (l : List Pg) (k : Nat) (a b : Int) (v : List Int) : (l.set k ⟨a, b, v⟩).map pA = (l.map pA).set k (.agg [I a, I b, ints v]) := by rw [List.map_set]
theorem frz_load {vals : List Int} {l : List Pg} {k : Nat} {a b : Int} {o1 o2 o3 o4 o5 : Option AObj} : Frz 6 ⟨1, vals.map I⟩ [o1, some ⟨3, (l.map pA).set k (.agg [I a, I b, .own 6 1 0 vals.length])⟩, o2, o3, o4, o5, some ⟨1, vals.map I⟩] [o1, oP (l.set k ⟨a, b, vals⟩), o2, o3, o4, o5, none] := by
  have same : ∀ (c : AObj), ∃ d : AObj, some (some c) = some (some d) ∧ c.z = d.z ∧ All2 (Fz1 6 ⟨1, vals.map I⟩) d.es c.es := fun c => ⟨c, rfl, rfl, a2_fz _⟩
  refine ⟨rfl, rfl, fun i c hc => ?_⟩
  rcases i with _ | _ | _ | _ | _ | _ | _ | i
  · cases hc; exact same c
  · cases hc
    refine ⟨_, rfl, rfl, ?_⟩
    show All2 _ ((l.map pA).set k _) ((l.set k ⟨a, b, vals⟩).map pA)
    rw [set_pA]
    exact a2_set (.agg _ _ (.cons _ _ _ _ (.same _) (.cons _ _ _ _ (.same _) (.cons _ _ _ _ (.drop 0 vals.length (vals.map iD) (by simp) (by simpa [List.take_of_length_le] using isDs_I vals)) .nil)))) _ _
  · cases hc; exact same c
  · cases hc; exact same c
  · cases hc; exact same c
  · cases hc; exact same c
  · cases hc
  · cases hc
def InvL (k : Nat) (own : Int) (X : AObj) (S : Store) : Prop := getO S 4 = some X ∧ ∃ es, getO S 1 = some ⟨3, es⟩ ∧ k < es.length ∧ (es.getD k .any).cells.getD 1 .any = I own
theorem l12Load_c (e : Eng) (tx page : Int) (vals : List Int) (hi : Inv e) (hvb : vals.length < 4611686018427387904) : AFn1 Tryz.prog 45 [eX 0 1 e, I tx, I page, ints vals] (sO e) (.tup [eX 0 1 (e.load tx page vals).1, Bo (e.load tx page vals).2]) (sO (e.load tx page vals).1) [] := by
  have hd5 := hi.disk.len
  have hm5 := hi.mem.len
  have hmay := l12May_fn e tx page hi.wf
  refine afn1_of Tryz.func45 rfl rfl ?_
  by_cases h1 : mayB e tx page = true
  rotate_left
  · have h1' : mayB e tx page = false := by simpa using h1
    rw [h1'] at hmay
    have e1 : e.load tx page vals = (e, false) := if_neg (by simp [Eng.loadB, h1'])
    rw [e1]
    simp -implicitDefEqProofs only [go_sem, Tryz.f45]
    (repeat' (first | ((with_reducible first | refine gon ?_ ?_ | refine gos ?_ ?_ | refine cdn ?_ ?_ | refine cds ?_ ?_ | refine gpn ?_ ?_ | refine gps ?_ ?_) <;> intro h <;> (try simp only [dt, df, gi, gt] at h) <;> try simp -implicitDefEqProofs only [go_sem, *]) | ((with_reducible refine And.intro ?_ ?_); (· first | omega | (simp only [List.length_take]; omega)); try simp -implicitDefEqProofs only [go_sem, *]) | first | ((with_reducible refine enter_own (hmay) ?_ rfl rfl ?_); (· repeat (first | exact All2.nil | (refine All2.cons _ _ _ _ ?_ ?_; (· first | exact arg_same rfl | exact arg_eX5 rfl rfl (by first | omega | (simp; omega)) (by first | omega | (simp; omega)) | exact arg_eX rfl rfl (by first | omega | (simp; omega)) (by first | omega | (simp; omega)) | exact .of1 _ _ (.of0 _ _ (arg0_r rfl (by simp))))))); try simp -implicitDefEqProofs only [go_sem, *])))
    exact fin_move [0, 1] [] (by simp) rfl (by decide) (keep2 rfl rfl (a2_p _ _) (a2_p _ _)) (hm2 rfl) (rnT_eXb rfl rfl) ⟨rfl, rfl, rfl⟩
  rw [h1] at hmay
  obtain ⟨-, ht, hp⟩ := mayB_iff h1
  obtain ⟨k, hk, rfl⟩ := page_nat hp
  have hsz := hi.mem.sz.sz k hk
  have h5 : (k : Int) < 5 := by omega
  clear hp
  have hem := l1Empty_fn (at' e.mem (k : Int)) (by omega)
  have htk := l12Took_fn e.log tx (k : Int) hi.wf
  by_cases h2 : vals.length = 3
  rotate_left
  · have h2' : ((vals.length : Int) != 3) = true := by simpa using by omega
    have e1 : e.load tx k vals = (e, false) := if_neg (by simp [Eng.loadB, h2])
    rw [e1]
    simp -implicitDefEqProofs only [go_sem, Tryz.f45]
    (repeat' (first | ((with_reducible first | refine gon ?_ ?_ | refine gos ?_ ?_ | refine cdn ?_ ?_ | refine cds ?_ ?_ | refine gpn ?_ ?_ | refine gps ?_ ?_) <;> intro h <;> (try simp only [dt, df, gi, gt] at h) <;> try simp -implicitDefEqProofs only [go_sem, *]) | ((with_reducible refine And.intro ?_ ?_); (· first | omega | (simp only [List.length_take]; omega)); try simp -implicitDefEqProofs only [go_sem, *]) | first | ((with_reducible refine enter_own (hmay) ?_ rfl rfl ?_); (· repeat (first | exact All2.nil | (refine All2.cons _ _ _ _ ?_ ?_; (· first | exact arg_same rfl | exact arg_eX5 rfl rfl (by first | omega | (simp; omega)) (by first | omega | (simp; omega)) | exact arg_eX rfl rfl (by first | omega | (simp; omega)) (by first | omega | (simp; omega)) | exact .of1 _ _ (.of0 _ _ (arg0_r rfl (by simp))))))); try simp -implicitDefEqProofs only [go_sem, *])))
    exact fin_move [0, 1] [] (by simp) rfl (by decide) (keep2 rfl rfl (a2_p _ _) (a2_p _ _)) (hm2 rfl) (rnT_eXb rfl rfl) ⟨rfl, rfl, rfl⟩
  have h2' : (((3 : Nat) : Int) != 3) = false := rfl
  by_cases h3 : (at' e.mem (k : Int)).owner = 0
  · have h3' : ((at' e.mem (k : Int)).owner == 0) = true := by simpa using h3
    have e1 : e.load tx k vals = (e, false) := if_neg (by simp [Eng.loadB, h3])
    rw [e1]
    clear h3
    simp -implicitDefEqProofs only [go_sem, Tryz.f45]
    (repeat' (first | ((with_reducible first | refine gon ?_ ?_ | refine gos ?_ ?_ | refine cdn ?_ ?_ | refine cds ?_ ?_ | refine gpn ?_ ?_ | refine gps ?_ ?_) <;> intro h <;> (try simp only [dt, df, gi, gt] at h) <;> try simp -implicitDefEqProofs only [go_sem, *]) | ((with_reducible refine And.intro ?_ ?_); (· first | omega | (simp only [List.length_take]; omega)); try simp -implicitDefEqProofs only [go_sem, *]) | first | ((with_reducible refine enter_own (hmay) ?_ rfl rfl ?_); (· repeat (first | exact All2.nil | (refine All2.cons _ _ _ _ ?_ ?_; (· first | exact arg_same rfl | exact arg_eX5 rfl rfl (by first | omega | (simp; omega)) (by first | omega | (simp; omega)) | exact arg_eX rfl rfl (by first | omega | (simp; omega)) (by first | omega | (simp; omega)) | exact .of1 _ _ (.of0 _ _ (arg0_r rfl (by simp))))))); try simp -implicitDefEqProofs only [go_sem, *])))
    exact fin_move [0, 1] [] (by simp) rfl (by decide) (keep2 rfl rfl (a2_p _ _) (a2_p _ _)) (hm2 rfl) (rnT_eXb rfl rfl) ⟨rfl, rfl, rfl⟩
  have h3' : ((at' e.mem (k : Int)).owner == 0) = false := by simpa using h3
  by_cases h4 : emptyB (at' e.mem (k : Int)) = true
  rotate_left
  · have h4' : emptyB (at' e.mem (k : Int)) = false := by simpa using h4
    rw [h4'] at hem
    have e1 : e.load tx k vals = (e, false) := if_neg (by simp [Eng.loadB, h4'])
    rw [e1]
    clear h3
    simp -implicitDefEqProofs only [go_sem, Tryz.f45]
    (repeat' (first | ((with_reducible first | refine gon ?_ ?_ | refine gos ?_ ?_ | refine cdn ?_ ?_ | refine cds ?_ ?_ | refine gpn ?_ ?_ | refine gps ?_ ?_) <;> intro h <;> (try simp only [dt, df, gi, gt] at h) <;> try simp -implicitDefEqProofs only [go_sem, *]) | ((with_reducible refine And.intro ?_ ?_); (· first | omega | (simp only [List.length_take]; omega)); try simp -implicitDefEqProofs only [go_sem, *]) | first | ((with_reducible refine enter_own (hmay) ?_ rfl rfl ?_); (· repeat (first | exact All2.nil | (refine All2.cons _ _ _ _ ?_ ?_; (· first | exact arg_same rfl | exact arg_eX5 rfl rfl (by first | omega | (simp; omega)) (by first | omega | (simp; omega)) | exact arg_eX rfl rfl (by first | omega | (simp; omega)) (by first | omega | (simp; omega)) | exact .of1 _ _ (.of0 _ _ (arg0_r rfl (by simp))))))); try simp -implicitDefEqProofs only [go_sem, *]) | ((with_reducible refine enter_own (hem) ?_ rfl rfl ?_); (· repeat (first | exact All2.nil | (refine All2.cons _ _ _ _ ?_ ?_; (· first | exact arg_same rfl | exact arg_eX5 rfl rfl (by first | omega | (simp; omega)) (by first | omega | (simp; omega)) | exact arg_eX rfl rfl (by first | omega | (simp; omega)) (by first | omega | (simp; omega)) | exact .of1 _ _ (.of0 _ _ (arg0_r rfl (by simp))))))); try simp -implicitDefEqProofs only [go_sem, *])))
    exact fin_move [0, 1] [] (by simp) rfl (by decide) (keep2 rfl rfl (a2_p _ _) (a2_p _ _)) (hm2 rfl) (rnT_eXb rfl rfl) ⟨rfl, rfl, rfl⟩
  rw [h4] at hem
  by_cases h6 : tookB e.log tx (k : Int) = true
  rotate_left
  · have h6' : tookB e.log tx (k : Int) = false := by simpa using h6
    rw [h6'] at htk
    have e1 : e.load tx k vals = (e, false) := if_neg (by simp [Eng.loadB, h6'])
    rw [e1]
    clear h3
    simp -implicitDefEqProofs only [go_sem, Tryz.f45]
    (repeat' (first | ((with_reducible first | refine gon ?_ ?_ | refine gos ?_ ?_ | refine cdn ?_ ?_ | refine cds ?_ ?_ | refine gpn ?_ ?_ | refine gps ?_ ?_) <;> intro h <;> (try simp only [dt, df, gi, gt] at h) <;> try simp -implicitDefEqProofs only [go_sem, *]) | ((with_reducible refine And.intro ?_ ?_); (· first | omega | (simp only [List.length_take]; omega)); try simp -implicitDefEqProofs only [go_sem, *]) | first | ((with_reducible refine enter_own (hmay) ?_ rfl rfl ?_); (· repeat (first | exact All2.nil | (refine All2.cons _ _ _ _ ?_ ?_; (· first | exact arg_same rfl | exact arg_eX5 rfl rfl (by first | omega | (simp; omega)) (by first | omega | (simp; omega)) | exact arg_eX rfl rfl (by first | omega | (simp; omega)) (by first | omega | (simp; omega)) | exact .of1 _ _ (.of0 _ _ (arg0_r rfl (by simp))))))); try simp -implicitDefEqProofs only [go_sem, *]) | ((with_reducible refine enter_own (hem) ?_ rfl rfl ?_); (· repeat (first | exact All2.nil | (refine All2.cons _ _ _ _ ?_ ?_; (· first | exact arg_same rfl | exact arg_eX5 rfl rfl (by first | omega | (simp; omega)) (by first | omega | (simp; omega)) | exact arg_eX rfl rfl (by first | omega | (simp; omega)) (by first | omega | (simp; omega)) | exact .of1 _ _ (.of0 _ _ (arg0_r rfl (by simp))))))); try simp -implicitDefEqProofs only [go_sem, *]) | ((with_reducible refine enter_own (htk) ?_ rfl rfl ?_); (· repeat (first | exact All2.nil | (refine All2.cons _ _ _ _ ?_ ?_; (· first | exact arg_same rfl | exact arg_eX5 rfl rfl (by first | omega | (simp; omega)) (by first | omega | (simp; omega)) | exact arg_eX rfl rfl (by first | omega | (simp; omega)) (by first | omega | (simp; omega)) | exact .of1 _ _ (.of0 _ _ (arg0_r rfl (by simp))))))); try simp -implicitDefEqProofs only [go_sem, *])))
    exact fin_move [0, 1] [] (by simp) rfl (by decide) (keep2 rfl rfl (a2_p _ _) (a2_p _ _)) (hm2 rfl) (rnT_eXb rfl rfl) ⟨rfl, rfl, rfl⟩
  rw [h6] at htk
  have hlb : e.loadB tx k vals = valsB vals := by simp [Eng.loadB, h1, h2, h3, h4, h6]
  have hadd := l12Add_c e (ldR tx k) hi (can_load hi h1)
  have hal := alog_len e (ldR tx k)
  clear h3
  simp -implicitDefEqProofs only [go_sem, Tryz.f45]
  (repeat' (first | ((with_reducible first | refine gon ?_ ?_ | refine gos ?_ ?_ | refine cdn ?_ ?_ | refine cds ?_ ?_ | refine gpn ?_ ?_ | refine gps ?_ ?_) <;> intro h <;> (try simp only [dt, df, gi, gt] at h) <;> try simp -implicitDefEqProofs only [go_sem, *]) | ((with_reducible refine And.intro ?_ ?_); (· first | omega | (simp only [List.length_take]; omega)); try simp -implicitDefEqProofs only [go_sem, *]) | first | ((with_reducible refine enter_own (hmay) ?_ rfl rfl ?_); (· repeat (first | exact All2.nil | (refine All2.cons _ _ _ _ ?_ ?_; (· first | exact arg_same rfl | exact arg_eX5 rfl rfl (by first | omega | (simp; omega)) (by first | omega | (simp; omega)) | exact arg_eX rfl rfl (by first | omega | (simp; omega)) (by first | omega | (simp; omega)) | exact .of1 _ _ (.of0 _ _ (arg0_r rfl (by simp))))))); try simp -implicitDefEqProofs only [go_sem, *]) | ((with_reducible refine enter_own (hem) ?_ rfl rfl ?_); (· repeat (first | exact All2.nil | (refine All2.cons _ _ _ _ ?_ ?_; (· first | exact arg_same rfl | exact arg_eX5 rfl rfl (by first | omega | (simp; omega)) (by first | omega | (simp; omega)) | exact arg_eX rfl rfl (by first | omega | (simp; omega)) (by first | omega | (simp; omega)) | exact .of1 _ _ (.of0 _ _ (arg0_r rfl (by simp))))))); try simp -implicitDefEqProofs only [go_sem, *]) | ((with_reducible refine enter_own (htk) ?_ rfl rfl ?_); (· repeat (first | exact All2.nil | (refine All2.cons _ _ _ _ ?_ ?_; (· first | exact arg_same rfl | exact arg_eX5 rfl rfl (by first | omega | (simp; omega)) (by first | omega | (simp; omega)) | exact arg_eX rfl rfl (by first | omega | (simp; omega)) (by first | omega | (simp; omega)) | exact .of1 _ _ (.of0 _ _ (arg0_r rfl (by simp))))))); try simp -implicitDefEqProofs only [go_sem, *])))
  refine cp_loop (fun i : Nat => ⟨(eX 0 1 e :: I tx :: I (k : Int) :: ints vals :: .ref 2 5 0 0 :: .any :: .any :: .any :: .ref 3 5 0 0 :: Bo false :: I (i : Int) :: .any :: .any :: .any :: .any :: .any :: .any :: .any :: .any :: .any :: .any :: .any :: .any :: .any :: .any :: .any :: .any :: .any :: .any :: .any :: .any :: .any :: .any :: .any :: .any :: .any :: .any :: .any :: .any :: .any :: .any :: .any :: .any :: .any :: .any :: .any :: .any :: .any :: .any :: .any :: .any :: .any :: .any :: .any :: .any :: .any :: .any :: .any :: .any :: .any :: .any :: .any :: .any :: .any :: .any :: .any :: .any :: .any :: .any :: .any :: .any :: .any :: .any :: .any :: .any :: .any :: .any :: .any :: .any :: .any :: .any :: .any :: .any :: .any :: .any :: .any :: .any :: .any :: .any :: .any :: .any :: []), [oP e.disk, oP e.mem, some ⟨5, [eX 0 1 e]⟩, some ⟨5, [.agg [.prim (.slice none 0 0), .prim (.slice none 0 0), .prim (.slice none 0 0), I 0, Bo false]]⟩], []⟩) (fun i => i ≤ vals.length ∧ allFrom (fun k => isIn (at' vals k) 0 9) i vals.length = valsB vals) (fun i => vals.length - i) 0 ?_ ?_ ?_
  · exact ⟨by omega, rfl⟩
  · refine wk_tm ?_; repeat (first | exact WL.nil | (with_reducible refine WL.any _ _ _ ?_) | (with_reducible refine WL.same _ _ _ ?_) | (refine WL.eq _ _ _ _ rfl ?_))
  · have hv3 : vals.length ≤ 3 ∧ 3 ≤ vals.length := by omega
    clear h2 h2'
    rintro i ⟨hi3, hg⟩
    have hib : i < 4611686018427387904 := by omega
    by_cases hil : i < vals.length
    · rw [valsB_lt (by omega)] at hg
      have hl1 : (i : Int) < (vals.length : Int) := by omega
      have hin := l6In_fn (at' vals (i : Int)) 0 9
      rcases hb : isIn (at' vals (i : Int)) 0 9 with _ | _
      · rw [hb] at hin hg
        have e1 : e.load tx k vals = (e, false) := if_neg (by rw [hlb, ← hg]; simp)
        rw [e1]
        simp -implicitDefEqProofs only [go_sem, hl1]
        (repeat' (first | ((with_reducible first | refine gon ?_ ?_ | refine gos ?_ ?_ | refine cdn ?_ ?_ | refine cds ?_ ?_ | refine gpn ?_ ?_ | refine gps ?_ ?_) <;> intro h <;> (try simp only [dt, df, gi, gt] at h) <;> try simp -implicitDefEqProofs only [go_sem, *]) | ((with_reducible refine And.intro ?_ ?_); (· first | omega | (simp only [List.length_take]; omega)); try simp -implicitDefEqProofs only [go_sem, *]) | ((with_reducible refine enter_pu (hin) ?_ ?_ ?_); (· rfl); (· rfl); try simp -implicitDefEqProofs only [go_sem, *])))
        exact fin_move [0, 1] [] (by simp) rfl (by decide) (keep2 rfl rfl (a2_p _ _) (a2_p _ _)) (hm2 rfl) (rnT_eXb rfl rfl) ⟨rfl, rfl, rfl⟩
      · rw [hb, Bool.true_and] at hg
        rw [hb] at hin
        simp -implicitDefEqProofs only [go_sem, hl1]
        (repeat' (first | ((with_reducible first | refine gon ?_ ?_ | refine gos ?_ ?_ | refine cdn ?_ ?_ | refine cds ?_ ?_ | refine gpn ?_ ?_ | refine gps ?_ ?_) <;> intro h <;> (try simp only [dt, df, gi, gt] at h) <;> try simp -implicitDefEqProofs only [go_sem, *]) | ((with_reducible refine And.intro ?_ ?_); (· first | omega | (simp only [List.length_take]; omega)); try simp -implicitDefEqProofs only [go_sem, *]) | ((with_reducible refine enter_pu (hin) ?_ ?_ ?_); (· rfl); (· rfl); try simp -implicitDefEqProofs only [go_sem, *])))
        refine ⟨i + 1, ⟨by omega, hg⟩, by omega, ?_⟩
        refine wk_tm ?_; repeat (first | exact WL.nil | (with_reducible refine WL.any _ _ _ ?_) | (with_reducible refine WL.same _ _ _ ?_) | (refine WL.eq _ _ _ _ rfl ?_))
    · have hl1 : ¬ (i : Int) < (vals.length : Int) := by omega
      rw [allFrom_ge (by omega)] at hg
      by_cases hf : e.fits (ldR tx k) = true
      · have e1 : e.load tx k vals = (e.laid tx k vals, true) := by unfold Eng.load; rw [if_pos (by rw [hlb, ← hg]), if_pos hf]
        have e2 : e.add (ldR tx k) = (e.added (ldR tx k), true) := if_pos hf
        have e3 : e.added (ldR tx k) = ⟨e.disk, e.mem, e.alog (ldR tx k), e.safe, e.down⟩ := by
          unfold Eng.added Eng.amem
          rw [if_neg (by show ¬ chg 3 = true; decide)]
        rw [e2, e3] at hadd
        rw [e1]
        clear hlb hg hmay
        simp -implicitDefEqProofs only [go_sem, hl1]
        (repeat' (first | ((with_reducible first | refine gon ?_ ?_ | refine gos ?_ ?_ | refine cdn ?_ ?_ | refine cds ?_ ?_ | refine gpn ?_ ?_ | refine gps ?_ ?_) <;> intro h <;> (try simp only [dt, df, gi, gt] at h) <;> try simp -implicitDefEqProofs only [go_sem, *]) | ((with_reducible refine And.intro ?_ ?_); (· first | omega | (simp only [List.length_take]; omega)); try simp -implicitDefEqProofs only [go_sem, *]) | first | ((with_reducible refine enter_at1 [0, 1] (M2 := []) (hadd) (by decide) ?_ ?_ rfl ?_); (· repeat (first | exact Keeps.nil | (refine Keeps.cons _ _ _ _ _ rfl rfl ?_ ?_; (· first | exact a2_p _ _ | exact a2_1 rfl | exact a2_I _ _)))); (· repeat (first | exact All2.nil | (refine All2.cons _ _ _ _ ?_ ?_; (· first | exact rnT_eX rfl rfl | exact rnT_prim | exact rnT_sl | exact rnT_ref rfl | exact rnT_agg rfl | exact rnT_own rfl | exact rnT_eX5 rfl rfl)))); try simp -implicitDefEqProofs only [go_sem, *])))
        refine cp_drawG (id := 10) 18 (InvL k (at' e.mem (k : Int)).owner ⟨5, [.agg [.own 0 3 0 5, .own 1 3 0 5, recs (e.alog (ldR tx (k : Int))), I e.safe, Bo e.down]]⟩) mixed rfl ?_
        have hx1 : k < (e.mem.map pA).length := by simp; omega
        have hx2 : ((e.mem.map pA).getD k .any).cells.getD 1 .any = I (at' e.mem (k : Int)).owner := by simp [at', hm5, hk]; rfl
        have hinv : InvL k (at' e.mem (k : Int)).owner ⟨5, [.agg [.own 0 3 0 5, .own 1 3 0 5, recs (e.alog (ldR tx (k : Int))), I e.safe, Bo e.down]]⟩ [oP e.disk, oP e.mem, some ⟨5, [eX 0 1 e]⟩, some ⟨5, [.agg [.prim (.slice none 0 0), .prim (.slice none 0 0), .prim (.slice none 0 0), I 0, Bo false]]⟩, some ⟨5, [.agg [.own 0 3 0 5, .own 1 3 0 5, recs (e.alog (ldR tx (k : Int))), I e.safe, Bo e.down]]⟩] := ⟨rfl, _, rfl, hx1, hx2⟩
        ((refine expG_get 0 (.ref 4 5 0 1) rfl ?_ ?_ hinv ?_ ?_); (· decide +kernel); (· decide +kernel); (· (rintro S ⟨hS0, es, hS1, hS2, hS3⟩; simp -implicitDefEqProofs only [go_sem, hS0, hS1, hS2, hS3, *])); try simp -implicitDefEqProofs only [go_sem, List.set_cons_succ, List.set_cons_zero])
        ((refine expG_get 1 (.own 1 3 0 5) rfl ?_ ?_ hinv ?_ ?_); (· decide +kernel); (· decide +kernel); (· (rintro S ⟨hS0, es, hS1, hS2, hS3⟩; simp -implicitDefEqProofs only [go_sem, hS0, hS1, hS2, hS3, *])); try simp -implicitDefEqProofs only [go_sem, List.set_cons_succ, List.set_cons_zero])
        ((refine expG_get 2 (I k) rfl ?_ ?_ hinv ?_ ?_); (· decide +kernel); (· decide +kernel); (· (rintro S ⟨hS0, es, hS1, hS2, hS3⟩; simp -implicitDefEqProofs only [go_sem, hS0, hS1, hS2, hS3, *])); try simp -implicitDefEqProofs only [go_sem, List.set_cons_succ, List.set_cons_zero])
        ((refine expG_get 3 (.ref 4 5 0 2) rfl ?_ ?_ hinv ?_ ?_); (· decide +kernel); (· decide +kernel); (· (rintro S ⟨hS0, es, hS1, hS2, hS3⟩; simp -implicitDefEqProofs only [go_sem, hS0, hS1, hS2, hS3, *])); try simp -implicitDefEqProofs only [go_sem, List.set_cons_succ, List.set_cons_zero])
        ((refine expG_get 4 (recs (e.alog (ldR tx (k : Int)))) rfl ?_ ?_ hinv ?_ ?_); (· decide +kernel); (· decide +kernel); (· (rintro S ⟨hS0, es, hS1, hS2, hS3⟩; simp -implicitDefEqProofs only [go_sem, hS0, hS1, hS2, hS3, *])); try simp -implicitDefEqProofs only [go_sem, List.set_cons_succ, List.set_cons_zero])
        ((refine expG_get 5 (I ((e.log.length + 1 : Nat) : Int)) rfl ?_ ?_ hinv ?_ ?_); (· decide +kernel); (· decide +kernel); (· (rintro S ⟨hS0, es, hS1, hS2, hS3⟩; simp -implicitDefEqProofs only [go_sem, hS0, hS1, hS2, hS3, *])); try simp -implicitDefEqProofs only [go_sem, List.set_cons_succ, List.set_cons_zero])
        ((refine expG_get 6 (.ref 4 5 0 1) rfl ?_ ?_ hinv ?_ ?_); (· decide +kernel); (· decide +kernel); (· (rintro S ⟨hS0, es, hS1, hS2, hS3⟩; simp -implicitDefEqProofs only [go_sem, hS0, hS1, hS2, hS3, *])); try simp -implicitDefEqProofs only [go_sem, List.set_cons_succ, List.set_cons_zero])
        ((refine expG_get 7 (.own 1 3 0 5) rfl ?_ ?_ hinv ?_ ?_); (· decide +kernel); (· decide +kernel); (· (rintro S ⟨hS0, es, hS1, hS2, hS3⟩; simp -implicitDefEqProofs only [go_sem, hS0, hS1, hS2, hS3, *])); try simp -implicitDefEqProofs only [go_sem, List.set_cons_succ, List.set_cons_zero])
        ((refine expG_get 8 (I k) rfl ?_ ?_ hinv ?_ ?_); (· decide +kernel); (· decide +kernel); (· (rintro S ⟨hS0, es, hS1, hS2, hS3⟩; simp -implicitDefEqProofs only [go_sem, hS0, hS1, hS2, hS3, *])); try simp -implicitDefEqProofs only [go_sem, List.set_cons_succ, List.set_cons_zero])
        ((refine expG_get 9 (.ref 1 3 k 0) rfl ?_ ?_ hinv ?_ ?_); (· decide +kernel); (· decide +kernel); (· (rintro S ⟨hS0, es, hS1, hS2, hS3⟩; simp -implicitDefEqProofs only [go_sem, hS0, hS1, hS2, hS3, *])); try simp -implicitDefEqProofs only [go_sem, List.set_cons_succ, List.set_cons_zero])
        ((refine expG_get 10 (.ref 1 3 k 1) rfl ?_ ?_ hinv ?_ ?_); (· decide +kernel); (· decide +kernel); (· (rintro S ⟨hS0, es, hS1, hS2, hS3⟩; simp -implicitDefEqProofs only [go_sem, hS0, hS1, hS2, hS3, *])); try simp -implicitDefEqProofs only [go_sem, List.set_cons_succ, List.set_cons_zero])
        ((refine expG_get 11 (I (at' e.mem (k : Int)).owner) rfl ?_ ?_ hinv ?_ ?_); (· decide +kernel); (· decide +kernel); (· (rintro S ⟨hS0, es, hS1, hS2, hS3⟩; simp -implicitDefEqProofs only [go_sem, hS0, hS1, hS2, hS3, *])); try simp -implicitDefEqProofs only [go_sem, List.set_cons_succ, List.set_cons_zero])
        ((refine expG_get 13 (ints vals) rfl ?_ ?_ hinv ?_ ?_); (· decide +kernel); (· decide +kernel); (· (rintro S ⟨hS0, es, hS1, hS2, hS3⟩; simp -implicitDefEqProofs only [go_sem, hS0, hS1, hS2, hS3, *])); try simp -implicitDefEqProofs only [go_sem, List.set_cons_succ, List.set_cons_zero])
        ((with_reducible refine expG_one 12 ?_ ?_); (· decide +kernel); try simp -implicitDefEqProofs only [go_sem, *])
        refine ⟨⟨rfl, _, rfl, hx1, hx2⟩, ?_⟩
        ((refine expG_new 14 rfl ?_ ?_); (· decide +kernel); simp -implicitDefEqProofs only [go_sem, *])
        refine ⟨by omega, ⟨rfl, _, rfl, hx1, hx2⟩, ?_⟩
        ((with_reducible refine expG_one 15 ?_ ?_); (· decide +kernel); try simp -implicitDefEqProofs only [go_sem, *])
        refine ⟨⟨rfl, _, rfl, hx1, hx2⟩, ?_⟩
        ((with_reducible refine expG_one 16 ?_ ?_); (· decide +kernel); try simp -implicitDefEqProofs only [go_sem, *])
        refine ⟨⟨rfl, _, rfl, hx1, hx2⟩, ?_⟩
        ((with_reducible refine expG_one 17 ?_ ?_); (· decide +kernel); try simp -implicitDefEqProofs only [go_sem, *])
        refine ⟨⟨rfl, _, rfl, by rw [List.length_set]; exact hx1, by rw [show ∀ x : AV, ((e.mem.map pA).set k x).getD k .any = x from fun x => by simp [List.getD, hm5, hk]]; rfl⟩, ?_⟩
        ((with_reducible refine expG_end ?_ ?_); (· decide +kernel); try simp -implicitDefEqProofs only [go_sem, *])
        (repeat' (first | ((with_reducible first | refine gon ?_ ?_ | refine gos ?_ ?_ | refine cdn ?_ ?_ | refine cds ?_ ?_ | refine gpn ?_ ?_ | refine gps ?_ ?_) <;> intro h <;> (try simp only [dt, df, gi, gt] at h) <;> try simp -implicitDefEqProofs only [go_sem, *]) | ((with_reducible refine And.intro ?_ ?_); (· first | omega | (simp only [List.length_take]; omega)); try simp -implicitDefEqProofs only [go_sem, *]) | fail))
        refine fin_freeze 6 (by omega) rfl frz_load (fun i hi => ?_) (.of _ _ (.of _ _ (.same _))) ?_
        · have hi2 : i = 0 ∨ i = 1 := by omega
          rcases hi2 with rfl | rfl
          · exact ⟨rfl, _, rfl, ne5 hd5⟩
          · refine ⟨rfl, _, rfl, fun h => ?_⟩
            have := congrArg List.length h
            simp [hm5] at this
        · have e5 : e.laid tx k vals = ⟨e.disk, e.mem.set k ⟨((e.log.length + 1 : Nat) : Int), (at' e.mem (k : Int)).owner, vals⟩, e.alog (ldR tx k), e.safe, e.down⟩ := by unfold Eng.laid; rw [hal]; rfl
          rw [e5]
          exact fin_move [0, 1] [] (by simp) rfl (by decide) (keep2 rfl rfl (a2_p _ _) (a2_p _ _)) (hm2 rfl) (rnT_eXb (e := ⟨e.disk, e.mem.set k ⟨((e.log.length + 1 : Nat) : Int), (at' e.mem (k : Int)).owner, vals⟩, e.alog (ldR tx k), e.safe, e.down⟩) rfl rfl) ⟨rfl, rfl, rfl⟩
      · have e1 : e.load tx k vals = (e, false) := by unfold Eng.load; rw [if_pos (by rw [hlb, ← hg]), if_neg hf]
        have e2 : e.add (ldR tx k) = (e, false) := if_neg hf
        rw [e2] at hadd
        rw [e1]
        clear hlb hg hmay
        simp -implicitDefEqProofs only [go_sem, hl1]
        (repeat' (first | ((with_reducible first | refine gon ?_ ?_ | refine gos ?_ ?_ | refine cdn ?_ ?_ | refine cds ?_ ?_ | refine gpn ?_ ?_ | refine gps ?_ ?_) <;> intro h <;> (try simp only [dt, df, gi, gt] at h) <;> try simp -implicitDefEqProofs only [go_sem, *]) | ((with_reducible refine And.intro ?_ ?_); (· first | omega | (simp only [List.length_take]; omega)); try simp -implicitDefEqProofs only [go_sem, *]) | first | ((with_reducible refine enter_at1 [0, 1] (M2 := []) (hadd) (by decide) ?_ ?_ rfl ?_); (· repeat (first | exact Keeps.nil | (refine Keeps.cons _ _ _ _ _ rfl rfl ?_ ?_; (· first | exact a2_p _ _ | exact a2_1 rfl | exact a2_I _ _)))); (· repeat (first | exact All2.nil | (refine All2.cons _ _ _ _ ?_ ?_; (· first | exact rnT_eX rfl rfl | exact rnT_prim | exact rnT_sl | exact rnT_ref rfl | exact rnT_agg rfl | exact rnT_own rfl | exact rnT_eX5 rfl rfl)))); try simp -implicitDefEqProofs only [go_sem, *])))
        exact fin_move [0, 1] [] (by simp) rfl (by decide) (keep2 rfl rfl (a2_p _ _) (a2_p _ _)) (hm2 rfl) (rnT_eXb rfl rfl) ⟨rfl, rfl, rfl⟩
end
section
attribute [local go_sem] slt_r slt_I slt_p
theorem l13Done_c (e : Eng) (tx : Int) (hi : Inv e) : AFn1 Tryz.prog 134 [eX 0 1 e, I tx] (sO e) (.tup [eX 0 1 (e.done tx).1, Bo (e.done tx).2]) (sO (e.done tx).1) [] := by
  have hd5 := hi.disk.len
  have hm5 := hi.mem.len
  have hlen := hi.len
  have hlb : e.log.length < 4611686018427387904 := by omega
  have h6 := l6In_fn tx 1 3
  have hl3 := l3Last_fn e.log tx hlb
  refine afn1_of Tryz.func134 rfl rfl ?_
  by_cases hd : e.down = true
  · have e1 : e.done tx = (e, false) := if_neg (by simp [Eng.liveB, hd])
    rw [e1]
    obtain ⟨a, b, c, s, d⟩ := e
    simp only at hd hd5 hm5
    subst hd
    simp -implicitDefEqProofs only [go_sem, Tryz.f134]
    (repeat' (first | ((with_reducible first | refine gon ?_ ?_ | refine gos ?_ ?_ | refine cdn ?_ ?_ | refine cds ?_ ?_ | refine gpn ?_ ?_ | refine gps ?_ ?_) <;> intro h <;> (try simp only [dt, df, gi, gt] at h) <;> try simp -implicitDefEqProofs only [go_sem, *]) | ((with_reducible refine And.intro ?_ ?_); (· first | omega | (simp only [List.length_take]; omega)); try simp -implicitDefEqProofs only [go_sem, *]) | fail))
    exact fin_move [0, 1] [] (by simp) rfl (by decide) (keep2 rfl rfl (a2_p _ _) (a2_p _ _)) (hm2 rfl) (rnT_eXb (e := ⟨a, b, c, s, true⟩) rfl rfl) ⟨rfl, rfl, rfl⟩
  have hd' : e.down = false := by simpa using hd
  by_cases h1 : isIn tx 1 3 = true
  rotate_left
  · have h1' : isIn tx 1 3 = false := by simpa using h1
    rw [h1'] at h6
    have e1 : e.done tx = (e, false) := if_neg (by simp [Eng.liveB, h1'])
    rw [e1]
    obtain ⟨a, b, c, s, d⟩ := e
    simp only at hd' hd5 hm5
    subst hd'
    simp -implicitDefEqProofs only [go_sem, Tryz.f134]
    (repeat' (first | ((with_reducible first | refine gon ?_ ?_ | refine gos ?_ ?_ | refine cdn ?_ ?_ | refine cds ?_ ?_ | refine gpn ?_ ?_ | refine gps ?_ ?_) <;> intro h <;> (try simp only [dt, df, gi, gt] at h) <;> try simp -implicitDefEqProofs only [go_sem, *]) | ((with_reducible refine And.intro ?_ ?_); (· first | omega | (simp only [List.length_take]; omega)); try simp -implicitDefEqProofs only [go_sem, *]) | first | ((with_reducible refine enter_pu (h6) ?_ ?_ ?_); (· rfl); (· rfl); try simp -implicitDefEqProofs only [go_sem, *])))
    exact fin_move [0, 1] [] (by simp) rfl (by decide) (keep2 rfl rfl (a2_p _ _) (a2_p _ _)) (hm2 rfl) (rnT_eXb (e := ⟨a, b, c, s, false⟩) rfl rfl) ⟨rfl, rfl, rfl⟩
  rw [h1] at h6
  by_cases h2 : lastN e.log tx = 0
  · have e1 : e.done tx = (e, false) := if_neg (by simp [Eng.liveB, h2])
    rw [e1]
    rw [h2] at hl3
    obtain ⟨a, b, c, s, d⟩ := e
    simp only at hd' hd5 hm5
    subst hd'
    simp -implicitDefEqProofs only [go_sem, Tryz.f134]
    (repeat' (first | ((with_reducible first | refine gon ?_ ?_ | refine gos ?_ ?_ | refine cdn ?_ ?_ | refine cds ?_ ?_ | refine gpn ?_ ?_ | refine gps ?_ ?_) <;> intro h <;> (try simp only [dt, df, gi, gt] at h) <;> try simp -implicitDefEqProofs only [go_sem, *]) | ((with_reducible refine And.intro ?_ ?_); (· first | omega | (simp only [List.length_take]; omega)); try simp -implicitDefEqProofs only [go_sem, *]) | first | ((with_reducible refine enter_pu (h6) ?_ ?_ ?_); (· rfl); (· rfl); try simp -implicitDefEqProofs only [go_sem, *]) | ((with_reducible refine enter_pu (hl3) ?_ ?_ ?_); (· rfl); (· rfl); try simp -implicitDefEqProofs only [go_sem, *])))
    exact fin_move [0, 1] [] (by simp) rfl (by decide) (keep2 rfl rfl (a2_p _ _) (a2_p _ _)) (hm2 rfl) (rnT_eXb (e := ⟨a, b, c, s, false⟩) rfl rfl) ⟨rfl, rfl, rfl⟩
  have hlive : e.liveB tx = true := by simp [Eng.liveB, hd', h1, h2]
  have e1 : e.done tx = (⟨(e.done1 tx).disk, (e.done1 tx).mem, (e.done1 tx).log, (e.done1 tx).log.length, (e.done1 tx).down⟩, true) := if_pos hlive
  obtain ⟨-, ht, hl0⟩ := liveB_iff hlive
  have h2' : (((lastN e.log tx : Nat) : Int) == 0) = false := by rw [beq_eq_false_iff_ne]; omega
  have hll := lastN_le e.log tx
  obtain ⟨X, hX⟩ : ∃ X, e.writes (chain e.log (lastN e.log tx)) = X := ⟨_, rfl⟩
  have hiX : Inv X := hX ▸ (done1_inv hi hlive).1
  obtain ⟨x1, x2, x3⟩ := writes_log (chain e.log (lastN e.log tx)) e
  rw [hX] at x1 x2 x3
  have hfit := fin_need hiX (k := 4) (tx := tx) (.inl rfl) ht (by rw [x1]; exact hl0)
  have e2 : X.add (doneR tx) = (X.added (doneR tx), true) := if_pos hfit
  have e3 : e.done1 tx = X.added (doneR tx) := by unfold Eng.done1; rw [hX, e2]
  rw [e1, e3]
  have hadd := l12Add_c X (doneR tx) hiX (can_fin hiX (.inl rfl) ht)
  rw [e2] at hadd
  have hal : ((X.added (doneR tx)).log.length : Int) = ((X.log.length + 1 : Nat) : Int) := by have := alog_len X (doneR tx); show ((X.alog (doneR tx)).length : Int) = _; omega
  have hld : (X.log.length + 1 : Nat) < 4611686018427387904 := by have := hiX.len; omega
  have hxd := hiX.disk.len
  have hxm : (X.added (doneR tx)).mem.length = 5 := (added_inv hiX (can_fin hiX (.inl rfl) ht) hfit).mem.len
  obtain ⟨Y, hY⟩ : ∃ Y, X.added (doneR tx) = Y := ⟨_, rfl⟩
  have hyd : Y.disk = X.disk := by rw [← hY]; rfl
  rw [hY] at hadd hal hxm ⊢
  clear e1 e2 e3 hfit hlive hY hd' x3
  simp -implicitDefEqProofs only [go_sem, Tryz.f134]
  (repeat' (first | ((with_reducible first | refine gon ?_ ?_ | refine gos ?_ ?_ | refine cdn ?_ ?_ | refine cds ?_ ?_ | refine gpn ?_ ?_ | refine gps ?_ ?_) <;> intro h <;> (try simp only [dt, df, gi, gt] at h) <;> try simp -implicitDefEqProofs only [go_sem, *]) | ((with_reducible refine And.intro ?_ ?_); (· first | omega | (simp only [List.length_take]; omega)); try simp -implicitDefEqProofs only [go_sem, *]) | first | ((with_reducible refine enter_pu (h6) ?_ ?_ ?_); (· rfl); (· rfl); try simp -implicitDefEqProofs only [go_sem, *]) | ((with_reducible refine enter_pu (hl3) ?_ ?_ ?_); (· rfl); (· rfl); try simp -implicitDefEqProofs only [go_sem, *])))
  rotate_left
  · exact absurd h hd
  refine cp_loop (fun p : Nat × Eng => ⟨(eX 0 1 e :: I tx :: .ref 2 5 0 0 :: .any :: .ref 3 5 0 0 :: Bo false :: I (p.1 : Int) :: .any :: .any :: .any :: .any :: .any :: .any :: .any :: .any :: .any :: .any :: .any :: .any :: .any :: .any :: .any :: .any :: .any :: .any :: .any :: .any :: .any :: .any :: .any :: .any :: .any :: .any :: .any :: .any :: .any :: .any :: .any :: .any :: .any :: .any :: .any :: .any :: .any :: .any :: .any :: .any :: .any :: .any :: .any :: .any :: .any :: .any :: .any :: .any :: .any :: .any :: .any :: .any :: .any :: .any :: .any :: .any :: .any :: .any :: .any :: []), [oP p.2.disk, oP p.2.mem, some ⟨5, [eX 0 1 p.2]⟩, some ⟨5, [.agg [.prim (.slice none 0 0), .prim (.slice none 0 0), .prim (.slice none 0 0), I 0, Bo false]]⟩], []⟩)
    (fun p => Inv p.2 ∧ p.2.log = e.log ∧ p.1 ≤ e.log.length ∧ p.2.writes (chain e.log p.1) = X) (fun p => p.1) (lastN e.log tx, e) ?_ ?_ ?_
  · exact ⟨hi, rfl, hll, hX⟩
  · refine wk_tm ?_; repeat (first | exact WL.nil | (with_reducible refine WL.any _ _ _ ?_) | (with_reducible refine WL.same _ _ _ ?_) | (refine WL.eq _ _ _ _ rfl ?_))
  · rintro ⟨n, c⟩ ⟨hic, hlog, hn, hg⟩
    simp only at hic hlog hn hg
    have hcd := hic.disk.len
    have hcm := hic.mem.len
    have hcl := hic.len
    rcases n with _ | n
    · rw [chain_zero] at hg
      obtain rfl : c = X := hg
      clear hX hl3 h2' h6 hd
      simp -implicitDefEqProofs only [go_sem, true_and]
      (repeat' (first | ((with_reducible first | refine gon ?_ ?_ | refine gos ?_ ?_ | refine cdn ?_ ?_ | refine cds ?_ ?_ | refine gpn ?_ ?_ | refine gps ?_ ?_) <;> intro h <;> (try simp only [dt, df, gi, gt] at h) <;> try simp -implicitDefEqProofs only [go_sem, *]) | ((with_reducible refine And.intro ?_ ?_); (· first | omega | (simp only [List.length_take]; omega)); try simp -implicitDefEqProofs only [go_sem, *]) | first | ((with_reducible refine enter_at1 [0, 1] (M2 := []) (hadd) (by decide) ?_ ?_ rfl ?_); (· repeat (first | exact Keeps.nil | (refine Keeps.cons _ _ _ _ _ rfl rfl ?_ ?_; (· first | exact a2_p _ _ | exact a2_1 rfl | exact a2_I _ _)))); (· repeat (first | exact All2.nil | (refine All2.cons _ _ _ _ ?_ ?_; (· first | exact rnT_eX rfl rfl | exact rnT_prim | exact rnT_sl | exact rnT_ref rfl | exact rnT_agg rfl | exact rnT_own rfl | exact rnT_eX5 rfl rfl)))); try simp -implicitDefEqProofs only [go_sem, *])))
      exact fin_move [0, 1] [] (by simp) rfl (by decide) (keep2 rfl rfl (a2_p _ _) (a2_p _ _)) (hm2 rfl) (rnT_eXb (e := ⟨c.disk, Y.mem, Y.log, ((e.log.length + 1 : Nat) : Int), Y.down⟩) rfl rfl) ⟨rfl, rfl, rfl⟩
    · obtain ⟨m, hm, hp⟩ := hi.wf.prev n (by omega)
      obtain ⟨j, hj, hpg⟩ := Rc.ok_page (hi.wf.rok n (by omega))
      obtain ⟨ca, cb, cc, cs, cd⟩ := c
      simp only at hlog
      subst hlog
      rw [chain_succ hp hm, Eng.writes, show (((n + 1 : Nat) : Int) - 1) = (n : Int) by omega, hpg] at hg
      have hwr := l11Write_c ⟨ca, cb, e.log, cs, cd⟩ j (by omega) hic.disk.sz hic.mem.sz
      have hwi := write_inv hic (p := j) (by omega)
      have hb : n < 4611686018427387904 := by omega
      have hblt : n < e.log.length := by omega
      simp only at hcd hcm
      by_cases hk : (at' e.log (n : Int)).kind = 3
      · have hk' : ((at' e.log (n : Int)).kind == 3) = true := by simpa using hk
        rw [if_pos hk] at hg
        have hwl : (Eng.write ⟨ca, cb, e.log, cs, cd⟩ j).log = e.log := rfl
        clear hk hX hl3 h2' h6 hd hlb hll
        simp -implicitDefEqProofs only [go_sem, hb, hp]
        (repeat' (first | ((with_reducible first | refine gon ?_ ?_ | refine gos ?_ ?_ | refine cdn ?_ ?_ | refine cds ?_ ?_ | refine gpn ?_ ?_ | refine gps ?_ ?_) <;> intro h <;> (try simp only [dt, df, gi, gt] at h) <;> try simp -implicitDefEqProofs only [go_sem, *]) | ((with_reducible refine And.intro ?_ ?_); (· first | omega | (simp only [List.length_take]; omega)); try simp -implicitDefEqProofs only [go_sem, *]) | first | ((with_reducible refine cp_draw2 (id := 7) 8 2 mixed ?_ ?_ ?_ ?_); (· decide +kernel); (· first | (simp only [List.all_cons, List.all_nil, List.length_cons, List.length_nil, Nat.reduceAdd, Nat.reduceLT, decide_true, Bool.and_true, Bool.and_self]; done) | rfl); (· rfl); try simp -implicitDefEqProofs only [go_sem, List.append_nil, *]) | ((with_reducible refine exp_one 8 ?_ ?_); (· decide +kernel); try simp -implicitDefEqProofs only [go_sem, *]) | ((with_reducible refine exp_one 9 ?_ ?_); (· decide +kernel); try simp -implicitDefEqProofs only [go_sem, *]) | ((with_reducible refine exp_end ?_ ?_); (· decide +kernel); try simp -implicitDefEqProofs only [go_sem, *]) | ((with_reducible refine enter_at1 [0, 1] (M2 := []) (hwr) (by decide) ?_ ?_ rfl ?_); (· repeat (first | exact Keeps.nil | (refine Keeps.cons _ _ _ _ _ rfl rfl ?_ ?_; (· first | exact a2_p _ _ | exact a2_1 rfl | exact a2_I _ _)))); (· repeat (first | exact All2.nil | (refine All2.cons _ _ _ _ ?_ ?_; (· first | exact rnT_eX rfl rfl | exact rnT_prim | exact rnT_sl | exact rnT_ref rfl | exact rnT_agg rfl | exact rnT_own rfl | exact rnT_eX5 rfl rfl)))); try simp -implicitDefEqProofs only [go_sem, *])))
        refine ⟨(m, Eng.write ⟨ca, cb, e.log, cs, cd⟩ j), ⟨hwi, rfl, by simp only; omega, hg⟩, by simp only; omega, ?_⟩
        refine wk_tm ?_; repeat (first | exact WL.nil | (with_reducible refine WL.any _ _ _ ?_) | (with_reducible refine WL.same _ _ _ ?_) | (refine WL.eq _ _ _ _ rfl ?_))
      · have hk' : ((at' e.log (n : Int)).kind == 3) = false := by simpa using hk
        rw [if_neg hk] at hg
        clear hk hX hl3 h2' h6 hd hlb hll
        simp -implicitDefEqProofs only [go_sem, hb, hp]
        (repeat' (first | ((with_reducible first | refine gon ?_ ?_ | refine gos ?_ ?_ | refine cdn ?_ ?_ | refine cds ?_ ?_ | refine gpn ?_ ?_ | refine gps ?_ ?_) <;> intro h <;> (try simp only [dt, df, gi, gt] at h) <;> try simp -implicitDefEqProofs only [go_sem, *]) | ((with_reducible refine And.intro ?_ ?_); (· first | omega | (simp only [List.length_take]; omega)); try simp -implicitDefEqProofs only [go_sem, *]) | fail))
        refine ⟨(m, ⟨ca, cb, e.log, cs, cd⟩), ⟨hic, rfl, by simp only; omega, hg⟩, by simp only; omega, ?_⟩
        refine wk_tm ?_; repeat (first | exact WL.nil | (with_reducible refine WL.any _ _ _ ?_) | (with_reducible refine WL.same _ _ _ ?_) | (refine WL.eq _ _ _ _ rfl ?_))
end
section
attribute [local go_sem] slt_r slt_I slt_p ty_ev
@[go_sem] theorem scT_one {i : Nat} {tm : List AV} : scT [i] tm = tm.map (AV.sc [i]) := rfl
@[go_sem] theorem scS_one {i : Nat} {S : Store} : scS [i] S = S.map (Option.map fun o => ⟨o.z, o.es.map (AV.sc1 [i])⟩) := rfl
attribute [go_sem] Option.map_some
abbrev evA (v : Ev) : AV := .agg [I v.kind, I v.tx, I v.page, I v.slot, I v.n, ints v.vals]
structure Ev.small (v : Ev) : Prop where
  n : v.n < 4611686018427387904
  vals : v.vals.length < 4611686018427387904
theorem l22Do_c (e : Eng) (v : Ev) (hi : Inv e) (hv : v.small) : AFn1 Tryz.prog 127 [eX 0 1 e, evA v] (sO e) (eX 0 1 (e.evDo v)) (sO (e.evDo v)) [1] := by
  have hd5 := hi.disk.len
  have hm5 := hi.mem.len
  have hlen := hi.len
  obtain ⟨vk, vt, vp, vs, vn, vv⟩ := v
  obtain ⟨hvn, hvv⟩ := hv
  simp only at hvn hvv
  refine afn1_of Tryz.func127 rfl rfl ?_
  by_cases h1 : vk = 1
  · subst h1
    have hc := l12Put_c e vt vp vs vn hi
    have e1 : e.evDo ⟨1, vt, vp, vs, vn, vv⟩ = (e.put vt vp vs vn).1 := rfl
    rw [e1]
    simp -implicitDefEqProofs only [go_sem, Tryz.f127]
    (repeat' (first | ((with_reducible first | refine gon ?_ ?_ | refine gos ?_ ?_ | refine cdn ?_ ?_ | refine cds ?_ ?_ | refine gpn ?_ ?_ | refine gps ?_ ?_) <;> intro h <;> (try simp only [dt, df, gi, gt] at h) <;> try simp -implicitDefEqProofs only [go_sem, *]) | ((with_reducible refine And.intro ?_ ?_); (· first | omega | (simp only [List.length_take]; omega)); try simp -implicitDefEqProofs only [go_sem, *]) | ((with_reducible refine enter_at1 [0, 1] (M2 := []) (hc) (by decide) ?_ ?_ rfl ?_); (· repeat (first | exact Keeps.nil | (refine Keeps.cons _ _ _ _ _ rfl rfl ?_ ?_; (· first | exact a2_p _ _ | exact a2_1 rfl | exact a2_I _ _)))); (· repeat (first | exact All2.nil | (refine All2.cons _ _ _ _ ?_ ?_; (· first | exact rnT_eX rfl rfl | exact rnT_prim | exact rnT_sl | exact rnT_ref rfl | exact rnT_agg rfl | exact rnT_own rfl | exact rnT_eX5 rfl rfl)))); try simp -implicitDefEqProofs only [go_sem, *])))
    exact fin_move [0, 1] [1] (by simp) rfl (by decide) (keep2 rfl rfl (a2_p _ _) (a2_p _ _)) (hm2x rfl) (rnT_eX rfl rfl) ⟨rfl, rfl, rfl⟩
  by_cases h2 : vk = 2
  · subst h2
    have hc := l12Own_c e vt vp vn hi
    have e1 : e.evDo ⟨2, vt, vp, vs, vn, vv⟩ = (e.own vt vp vn).1 := rfl
    rw [e1]
    simp -implicitDefEqProofs only [go_sem, Tryz.f127]
    (repeat' (first | ((with_reducible first | refine gon ?_ ?_ | refine gos ?_ ?_ | refine cdn ?_ ?_ | refine cds ?_ ?_ | refine gpn ?_ ?_ | refine gps ?_ ?_) <;> intro h <;> (try simp only [dt, df, gi, gt] at h) <;> try simp -implicitDefEqProofs only [go_sem, *]) | ((with_reducible refine And.intro ?_ ?_); (· first | omega | (simp only [List.length_take]; omega)); try simp -implicitDefEqProofs only [go_sem, *]) | ((with_reducible refine enter_at1 [0, 1] (M2 := []) (hc) (by decide) ?_ ?_ rfl ?_); (· repeat (first | exact Keeps.nil | (refine Keeps.cons _ _ _ _ _ rfl rfl ?_ ?_; (· first | exact a2_p _ _ | exact a2_1 rfl | exact a2_I _ _)))); (· repeat (first | exact All2.nil | (refine All2.cons _ _ _ _ ?_ ?_; (· first | exact rnT_eX rfl rfl | exact rnT_prim | exact rnT_sl | exact rnT_ref rfl | exact rnT_agg rfl | exact rnT_own rfl | exact rnT_eX5 rfl rfl)))); try simp -implicitDefEqProofs only [go_sem, *])))
    exact fin_move [0, 1] [1] (by simp) rfl (by decide) (keep2 rfl rfl (a2_p _ _) (a2_p _ _)) (hm2x rfl) (rnT_eX rfl rfl) ⟨rfl, rfl, rfl⟩
  by_cases h3 : vk = 3
  · subst h3
    have hc := l12Load_c e vt vp vv hi hvv
    have e1 : e.evDo ⟨3, vt, vp, vs, vn, vv⟩ = (e.load vt vp vv).1 := rfl
    rw [e1]
    simp -implicitDefEqProofs only [go_sem, Tryz.f127]
    (repeat' (first | ((with_reducible first | refine gon ?_ ?_ | refine gos ?_ ?_ | refine cdn ?_ ?_ | refine cds ?_ ?_ | refine gpn ?_ ?_ | refine gps ?_ ?_) <;> intro h <;> (try simp only [dt, df, gi, gt] at h) <;> try simp -implicitDefEqProofs only [go_sem, *]) | ((with_reducible refine And.intro ?_ ?_); (· first | omega | (simp only [List.length_take]; omega)); try simp -implicitDefEqProofs only [go_sem, *]) | ((with_reducible refine enter_at1 [0, 1] (M2 := []) (hc) (by decide) ?_ ?_ rfl ?_); (· repeat (first | exact Keeps.nil | (refine Keeps.cons _ _ _ _ _ rfl rfl ?_ ?_; (· first | exact a2_p _ _ | exact a2_1 rfl | exact a2_I _ _)))); (· repeat (first | exact All2.nil | (refine All2.cons _ _ _ _ ?_ ?_; (· first | exact rnT_eX rfl rfl | exact rnT_prim | exact rnT_sl | exact rnT_ref rfl | exact rnT_agg rfl | exact rnT_own rfl | exact rnT_eX5 rfl rfl)))); try simp -implicitDefEqProofs only [go_sem, *])))
    exact fin_move [0, 1] [1] (by simp) rfl (by decide) (keep2 rfl rfl (a2_p _ _) (a2_p _ _)) (hm2x rfl) (rnT_eX rfl rfl) ⟨rfl, rfl, rfl⟩
  by_cases h4 : vk = 4
  · subst h4
    have hc := l13Done_c e vt hi
    have e1 : e.evDo ⟨4, vt, vp, vs, vn, vv⟩ = (e.done vt).1 := rfl
    rw [e1]
    simp -implicitDefEqProofs only [go_sem, Tryz.f127]
    (repeat' (first | ((with_reducible first | refine gon ?_ ?_ | refine gos ?_ ?_ | refine cdn ?_ ?_ | refine cds ?_ ?_ | refine gpn ?_ ?_ | refine gps ?_ ?_) <;> intro h <;> (try simp only [dt, df, gi, gt] at h) <;> try simp -implicitDefEqProofs only [go_sem, *]) | ((with_reducible refine And.intro ?_ ?_); (· first | omega | (simp only [List.length_take]; omega)); try simp -implicitDefEqProofs only [go_sem, *]) | ((with_reducible refine enter_at1 [0, 1] (M2 := []) (hc) (by decide) ?_ ?_ rfl ?_); (· repeat (first | exact Keeps.nil | (refine Keeps.cons _ _ _ _ _ rfl rfl ?_ ?_; (· first | exact a2_p _ _ | exact a2_1 rfl | exact a2_I _ _)))); (· repeat (first | exact All2.nil | (refine All2.cons _ _ _ _ ?_ ?_; (· first | exact rnT_eX rfl rfl | exact rnT_prim | exact rnT_sl | exact rnT_ref rfl | exact rnT_agg rfl | exact rnT_own rfl | exact rnT_eX5 rfl rfl)))); try simp -implicitDefEqProofs only [go_sem, *])))
    exact fin_move [0, 1] [1] (by simp) rfl (by decide) (keep2 rfl rfl (a2_p _ _) (a2_p _ _)) (hm2x rfl) (rnT_eX rfl rfl) ⟨rfl, rfl, rfl⟩
  by_cases h5 : vk = 5
  · subst h5
    have hc := l13Undo_c e vt hi
    have e1 : e.evDo ⟨5, vt, vp, vs, vn, vv⟩ = (e.undo vt).1 := rfl
    rw [e1]
    simp -implicitDefEqProofs only [go_sem, Tryz.f127]
    (repeat' (first | ((with_reducible first | refine gon ?_ ?_ | refine gos ?_ ?_ | refine cdn ?_ ?_ | refine cds ?_ ?_ | refine gpn ?_ ?_ | refine gps ?_ ?_) <;> intro h <;> (try simp only [dt, df, gi, gt] at h) <;> try simp -implicitDefEqProofs only [go_sem, *]) | ((with_reducible refine And.intro ?_ ?_); (· first | omega | (simp only [List.length_take]; omega)); try simp -implicitDefEqProofs only [go_sem, *]) | ((with_reducible refine enter_at1 [0, 1] (M2 := []) (hc) (by decide) ?_ ?_ rfl ?_); (· repeat (first | exact Keeps.nil | (refine Keeps.cons _ _ _ _ _ rfl rfl ?_ ?_; (· first | exact a2_p _ _ | exact a2_1 rfl | exact a2_I _ _)))); (· repeat (first | exact All2.nil | (refine All2.cons _ _ _ _ ?_ ?_; (· first | exact rnT_eX rfl rfl | exact rnT_prim | exact rnT_sl | exact rnT_ref rfl | exact rnT_agg rfl | exact rnT_own rfl | exact rnT_eX5 rfl rfl)))); try simp -implicitDefEqProofs only [go_sem, *])))
    exact fin_move [0, 1] [1] (by simp) rfl (by decide) (keep2 rfl rfl (a2_p _ _) (a2_p _ _)) (hm2x rfl) (rnT_eX rfl rfl) ⟨rfl, rfl, rfl⟩
  by_cases h6 : vk = 6
  · subst h6
    have hl6 := l6In_fn vp 0 4
    by_cases hc : e.down = false ∧ isIn vp 0 4 = true
    · have e1 : e.evDo ⟨6, vt, vp, vs, vn, vv⟩ = e.write vp := if_pos hc
      obtain ⟨hd, hp⟩ := hc
      rw [hp] at hl6
      unfold isIn at hp
      simp only [Bool.and_eq_true, decide_eq_true_eq] at hp
      obtain ⟨k, hk, rfl⟩ := page_nat hp
      have hwr := l11Write_c e k hk hi.disk.sz hi.mem.sz
      rw [e1]
      clear e1 hp
      obtain ⟨ea, eb, ec, es, ed⟩ := e
      simp only at hd hd5 hm5
      subst hd
      simp -implicitDefEqProofs only [go_sem, Tryz.f127]
      (repeat' (first | ((with_reducible first | refine gon ?_ ?_ | refine gos ?_ ?_ | refine cdn ?_ ?_ | refine cds ?_ ?_ | refine gpn ?_ ?_ | refine gps ?_ ?_) <;> intro h <;> (try simp only [dt, df, gi, gt] at h) <;> try simp -implicitDefEqProofs only [go_sem, *]) | ((with_reducible refine And.intro ?_ ?_); (· first | omega | (simp only [List.length_take]; omega)); try simp -implicitDefEqProofs only [go_sem, *]) | first | ((with_reducible refine enter_pu (hl6) ?_ ?_ ?_); (· rfl); (· rfl); try simp -implicitDefEqProofs only [go_sem, *]) | ((with_reducible refine enter_at1 [0, 1] (M2 := []) (hwr) (by decide) ?_ ?_ rfl ?_); (· repeat (first | exact Keeps.nil | (refine Keeps.cons _ _ _ _ _ rfl rfl ?_ ?_; (· first | exact a2_p _ _ | exact a2_1 rfl | exact a2_I _ _)))); (· repeat (first | exact All2.nil | (refine All2.cons _ _ _ _ ?_ ?_; (· first | exact rnT_eX rfl rfl | exact rnT_prim | exact rnT_sl | exact rnT_ref rfl | exact rnT_agg rfl | exact rnT_own rfl | exact rnT_eX5 rfl rfl)))); try simp -implicitDefEqProofs only [go_sem, *])))
      exact fin_move [0, 1] [1] (by simp) rfl (by decide) (keep2 rfl rfl (a2_p _ _) (a2_p _ _)) (hm2x rfl) (rnT_eX rfl rfl) ⟨rfl, rfl, rfl⟩
    · have e1 : e.evDo ⟨6, vt, vp, vs, vn, vv⟩ = e := if_neg hc
      rw [e1]
      rcases hd : e.down with _ | _
      · have hp : isIn vp 0 4 = false := by
          rw [← Bool.not_eq_true]
          exact fun h => hc ⟨hd, h⟩
        rw [hp] at hl6
        clear e1 hc
        obtain ⟨ea, eb, ec, es, ed⟩ := e
        simp only at hd hd5 hm5
        subst hd
        simp -implicitDefEqProofs only [go_sem, Tryz.f127]
        (repeat' (first | ((with_reducible first | refine gon ?_ ?_ | refine gos ?_ ?_ | refine cdn ?_ ?_ | refine cds ?_ ?_ | refine gpn ?_ ?_ | refine gps ?_ ?_) <;> intro h <;> (try simp only [dt, df, gi, gt] at h) <;> try simp -implicitDefEqProofs only [go_sem, *]) | ((with_reducible refine And.intro ?_ ?_); (· first | omega | (simp only [List.length_take]; omega)); try simp -implicitDefEqProofs only [go_sem, *]) | first | ((with_reducible refine enter_pu (hl6) ?_ ?_ ?_); (· rfl); (· rfl); try simp -implicitDefEqProofs only [go_sem, *])))
        exact fin_move [0, 1] [1] (by simp) rfl (by decide) (keep2 rfl rfl (a2_p _ _) (a2_p _ _)) (hm2x rfl) (rnT_eX (e := ⟨ea, eb, ec, es, false⟩) rfl rfl) ⟨rfl, rfl, rfl⟩
      · clear e1 hc
        obtain ⟨ea, eb, ec, es, ed⟩ := e
        simp only at hd hd5 hm5
        subst hd
        simp -implicitDefEqProofs only [go_sem, Tryz.f127]
        (repeat' (first | ((with_reducible first | refine gon ?_ ?_ | refine gos ?_ ?_ | refine cdn ?_ ?_ | refine cds ?_ ?_ | refine gpn ?_ ?_ | refine gps ?_ ?_) <;> intro h <;> (try simp only [dt, df, gi, gt] at h) <;> try simp -implicitDefEqProofs only [go_sem, *]) | ((with_reducible refine And.intro ?_ ?_); (· first | omega | (simp only [List.length_take]; omega)); try simp -implicitDefEqProofs only [go_sem, *]) | fail))
        exact fin_move [0, 1] [1] (by simp) rfl (by decide) (keep2 rfl rfl (a2_p _ _) (a2_p _ _)) (hm2x rfl) (rnT_eX (e := ⟨ea, eb, ec, es, true⟩) rfl rfl) ⟨rfl, rfl, rfl⟩
  by_cases h7 : vk = 7
  · subst h7
    rcases hd : e.down with _ | _
    · have e1 : e.evDo ⟨7, vt, vp, vs, vn, vv⟩ = ⟨e.disk, e.mem, e.log, e.log.length, e.down⟩ := if_pos hd
      rw [e1]
      clear e1
      obtain ⟨ea, eb, ec, es, ed⟩ := e
      simp only at hd hd5 hm5 hlen
      subst hd
      simp -implicitDefEqProofs only [go_sem, Tryz.f127]
      (repeat' (first | ((with_reducible first | refine gon ?_ ?_ | refine gos ?_ ?_ | refine cdn ?_ ?_ | refine cds ?_ ?_ | refine gpn ?_ ?_ | refine gps ?_ ?_) <;> intro h <;> (try simp only [dt, df, gi, gt] at h) <;> try simp -implicitDefEqProofs only [go_sem, *]) | ((with_reducible refine And.intro ?_ ?_); (· first | omega | (simp only [List.length_take]; omega)); try simp -implicitDefEqProofs only [go_sem, *]) | fail))
      exact fin_move [0, 1] [1] (by simp) rfl (by decide) (keep2 rfl rfl (a2_p _ _) (a2_p _ _)) (hm2x rfl) (rnT_eX (e := ⟨ea, eb, ec, ec.length, false⟩) rfl rfl) ⟨rfl, rfl, rfl⟩
    · have e1 : e.evDo ⟨7, vt, vp, vs, vn, vv⟩ = e := (if_neg (by rw [hd]; decide) : (if e.down = false then (⟨e.disk, e.mem, e.log, e.log.length, e.down⟩ : Eng) else e) = e)
      rw [e1]
      clear e1
      obtain ⟨ea, eb, ec, es, ed⟩ := e
      simp only at hd hd5 hm5 hlen
      subst hd
      simp -implicitDefEqProofs only [go_sem, Tryz.f127]
      (repeat' (first | ((with_reducible first | refine gon ?_ ?_ | refine gos ?_ ?_ | refine cdn ?_ ?_ | refine cds ?_ ?_ | refine gpn ?_ ?_ | refine gps ?_ ?_) <;> intro h <;> (try simp only [dt, df, gi, gt] at h) <;> try simp -implicitDefEqProofs only [go_sem, *]) | ((with_reducible refine And.intro ?_ ?_); (· first | omega | (simp only [List.length_take]; omega)); try simp -implicitDefEqProofs only [go_sem, *]) | fail))
      exact fin_move [0, 1] [1] (by simp) rfl (by decide) (keep2 rfl rfl (a2_p _ _) (a2_p _ _)) (hm2x rfl) (rnT_eX (e := ⟨ea, eb, ec, es, true⟩) rfl rfl) ⟨rfl, rfl, rfl⟩
  by_cases h8 : vk = 8
  · subst h8
    by_cases hn : 0 ≤ vn
    · have e1 : e.evDo ⟨8, vt, vp, vs, vn, vv⟩ = e.fall vn := if_pos hn
      have hf := l21Fall_c e vn hi hn
      rw [e1]
      simp -implicitDefEqProofs only [go_sem, Tryz.f127, hn]
      (repeat' (first | ((with_reducible first | refine gon ?_ ?_ | refine gos ?_ ?_ | refine cdn ?_ ?_ | refine cds ?_ ?_ | refine gpn ?_ ?_ | refine gps ?_ ?_) <;> intro h <;> (try simp only [dt, df, gi, gt] at h) <;> try simp -implicitDefEqProofs only [go_sem, *]) | ((with_reducible refine And.intro ?_ ?_); (· first | omega | (simp only [List.length_take]; omega)); try simp -implicitDefEqProofs only [go_sem, *]) | ((with_reducible refine enter_at1 [0, 1] (M2 := [1]) (hf) (by decide) ?_ ?_ rfl ?_); (· repeat (first | exact Keeps.nil | (refine Keeps.cons _ _ _ _ _ rfl rfl ?_ ?_; (· first | exact a2_p _ _ | exact a2_1 rfl | exact a2_I _ _)))); (· repeat (first | exact All2.nil | (refine All2.cons _ _ _ _ ?_ ?_; (· first | exact rnT_eX rfl rfl | exact rnT_prim | exact rnT_sl | exact rnT_ref rfl | exact rnT_agg rfl | exact rnT_own rfl | exact rnT_eX5 rfl rfl)))); try simp -implicitDefEqProofs only [go_sem, *])))
      exact fin_move [0, 1] [1] (by simp) rfl (by decide) (keep2 rfl rfl (a2_p _ _) (a2_p _ _)) (hm2x rfl) (rnT_eX rfl rfl) ⟨rfl, rfl, rfl⟩
    · have e1 : e.evDo ⟨8, vt, vp, vs, vn, vv⟩ = e := if_neg hn
      rw [e1]
      simp -implicitDefEqProofs only [go_sem, Tryz.f127, hn]
      (repeat' (first | ((with_reducible first | refine gon ?_ ?_ | refine gos ?_ ?_ | refine cdn ?_ ?_ | refine cds ?_ ?_ | refine gpn ?_ ?_ | refine gps ?_ ?_) <;> intro h <;> (try simp only [dt, df, gi, gt] at h) <;> try simp -implicitDefEqProofs only [go_sem, *]) | ((with_reducible refine And.intro ?_ ?_); (· first | omega | (simp only [List.length_take]; omega)); try simp -implicitDefEqProofs only [go_sem, *]) | fail))
      exact fin_move [0, 1] [1] (by simp) rfl (by decide) (keep2 rfl rfl (a2_p _ _) (a2_p _ _)) (hm2x rfl) (rnT_eX rfl rfl) ⟨rfl, rfl, rfl⟩
  by_cases h9 : vk = 9
  · subst h9
    by_cases hc : 0 ≤ vn ∧ e.down = true
    · have e1 : e.evDo ⟨9, vt, vp, vs, vn, vv⟩ = (e.up vn).1 := if_pos hc
      obtain ⟨hn, hd⟩ := hc
      have hf := l21Up_c e vn hi hvn
      rw [e1]
      clear e1
      obtain ⟨X, hX⟩ : ∃ X, e.up vn = X := ⟨_, rfl⟩
      rw [hX] at hf ⊢
      clear hX
      obtain ⟨ea, eb, ec, es, ed⟩ := e
      simp only at hd hd5 hm5 hlen
      subst hd
      simp -implicitDefEqProofs only [go_sem, Tryz.f127, hn]
      (repeat' (first | ((with_reducible first | refine gon ?_ ?_ | refine gos ?_ ?_ | refine cdn ?_ ?_ | refine cds ?_ ?_ | refine gpn ?_ ?_ | refine gps ?_ ?_) <;> intro h <;> (try simp only [dt, df, gi, gt] at h) <;> try simp -implicitDefEqProofs only [go_sem, *]) | ((with_reducible refine And.intro ?_ ?_); (· first | omega | (simp only [List.length_take]; omega)); try simp -implicitDefEqProofs only [go_sem, *]) | ((with_reducible refine enter_at1 [0, 1] (M2 := [1]) (hf) (by decide) ?_ ?_ rfl ?_); (· repeat (first | exact Keeps.nil | (refine Keeps.cons _ _ _ _ _ rfl rfl ?_ ?_; (· first | exact a2_p _ _ | exact a2_1 rfl | exact a2_I _ _)))); (· repeat (first | exact All2.nil | (refine All2.cons _ _ _ _ ?_ ?_; (· first | exact rnT_eX rfl rfl | exact rnT_prim | exact rnT_sl | exact rnT_ref rfl | exact rnT_agg rfl | exact rnT_own rfl | exact rnT_eX5 rfl rfl)))); try simp -implicitDefEqProofs only [go_sem, *])))
      exact fin_move [0, 1] [1] (by simp) rfl (by decide) (keep2 rfl rfl (a2_p _ _) (a2_p _ _)) (hm2x rfl) (rnT_eX rfl rfl) ⟨rfl, rfl, rfl⟩
    · have e1 : e.evDo ⟨9, vt, vp, vs, vn, vv⟩ = e := if_neg hc
      rw [e1]
      clear e1
      by_cases hn : 0 ≤ vn
      · have hd : e.down = false := by
          rw [← Bool.not_eq_true]
          exact fun h => hc ⟨hn, h⟩
        clear hc
        obtain ⟨ea, eb, ec, es, ed⟩ := e
        simp only at hd hd5 hm5 hlen
        subst hd
        simp -implicitDefEqProofs only [go_sem, Tryz.f127, hn]
        (repeat' (first | ((with_reducible first | refine gon ?_ ?_ | refine gos ?_ ?_ | refine cdn ?_ ?_ | refine cds ?_ ?_ | refine gpn ?_ ?_ | refine gps ?_ ?_) <;> intro h <;> (try simp only [dt, df, gi, gt] at h) <;> try simp -implicitDefEqProofs only [go_sem, *]) | ((with_reducible refine And.intro ?_ ?_); (· first | omega | (simp only [List.length_take]; omega)); try simp -implicitDefEqProofs only [go_sem, *]) | fail))
        exact fin_move [0, 1] [1] (by simp) rfl (by decide) (keep2 rfl rfl (a2_p _ _) (a2_p _ _)) (hm2x rfl) (rnT_eX (e := ⟨ea, eb, ec, es, false⟩) rfl rfl) ⟨rfl, rfl, rfl⟩
      · simp -implicitDefEqProofs only [go_sem, Tryz.f127, hn]
        (repeat' (first | ((with_reducible first | refine gon ?_ ?_ | refine gos ?_ ?_ | refine cdn ?_ ?_ | refine cds ?_ ?_ | refine gpn ?_ ?_ | refine gps ?_ ?_) <;> intro h <;> (try simp only [dt, df, gi, gt] at h) <;> try simp -implicitDefEqProofs only [go_sem, *]) | ((with_reducible refine And.intro ?_ ?_); (· first | omega | (simp only [List.length_take]; omega)); try simp -implicitDefEqProofs only [go_sem, *]) | fail))
        exact fin_move [0, 1] [1] (by simp) rfl (by decide) (keep2 rfl rfl (a2_p _ _) (a2_p _ _)) (hm2x rfl) (rnT_eX rfl rfl) ⟨rfl, rfl, rfl⟩
  have q : ∀ n : Int, vk ≠ n → (vk == n) = false := fun n h => by simpa using h
  have e1 : e.evDo ⟨vk, vt, vp, vs, vn, vv⟩ = e := by
    unfold Eng.evDo
    simp only
    rw [if_neg h1, if_neg h2, if_neg h3, if_neg h4, if_neg h5, if_neg h6, if_neg h7, if_neg h8, if_neg h9]
  rw [e1]
  simp -implicitDefEqProofs only [go_sem, Tryz.f127, q 1 h1, q 2 h2, q 3 h3, q 4 h4, q 5 h5, q 6 h6, q 7 h7, q 8 h8, q 9 h9]
  exact fin_move [0, 1] [1] (by simp) rfl (by decide) (keep2 rfl rfl (a2_p _ _) (a2_p _ _)) (hm2x rfl) (rnT_eX rfl rfl) ⟨rfl, rfl, rfl⟩
end
section
attribute [local go_sem] slt_r slt_I slt_p ty_rd
def sliceW (te : TI) (i z off len : Nat) (l h : Option Int) : OpR := match l, h with
  | some l, some h => .val (0 ≤ l ∧ l < h ∧ h ≤ len ∧ te.zs.length = z) (.own i z (off + l.toNat) (h.toNat - l.toNat))
  | _, _ => .stuck
@[go_sem] theorem sliceO_own {te : TI} {tm : List AV} {i z off len : Nat} {lo hi : Option Operand} : sliceO (some te) tm (.own i z off len) lo hi none = sliceW te i z off len (bnd tm 0 lo) (bnd tm len hi) := by
  simp only [sliceO, sliceW]
  rfl
@[go_sem] theorem sliceW_some {te : TI} {i z off len : Nat} {l h : Int} : sliceW te i z off len (some l) (some h) = .val (0 ≤ l ∧ l < h ∧ h ≤ len ∧ te.zs.length = z) (.own i z (off + l.toNat) (h.toNat - l.toNat)) := rfl
theorem PageNew_fn : Fn1 Tryz.prog 128 [] (pA newP) := by
  refine fn1_of Tryz.func128 rfl rfl ?_
  simp -implicitDefEqProofs only [go_sem, Tryz.f128]
  (repeat' (first | ((with_reducible first | refine gon ?_ ?_ | refine gos ?_ ?_ | refine cdn ?_ ?_ | refine cds ?_ ?_ | refine gpn ?_ ?_ | refine gps ?_ ?_) <;> intro h <;> (try simp only [dt, df, gi, gt] at h) <;> try simp -implicitDefEqProofs only [go_sem, *]) | ((with_reducible refine And.intro ?_ ?_); (· first | omega | (simp only [List.length_take]; omega)); try simp -implicitDefEqProofs only [go_sem, *]) | fail))
  exact fin_1 (argT_pg (arg0_I (l := [0, 0, 0]) rfl rfl))
theorem PageNew_own : Fn Tryz.prog 128 [] (fun r S => r = .agg [I 0, I 0, .own 0 1 0 3] ∧ S = [some ⟨1, [0, 0, 0].map I⟩]) := by
  refine fn_of Tryz.func128 rfl rfl ?_
  simp -implicitDefEqProofs only [go_sem, Tryz.f128]
  (repeat' (first | ((with_reducible first | refine gon ?_ ?_ | refine gos ?_ ?_ | refine cdn ?_ ?_ | refine cds ?_ ?_ | refine gpn ?_ ?_ | refine gps ?_ ?_) <;> intro h <;> (try simp only [dt, df, gi, gt] at h) <;> try simp -implicitDefEqProofs only [go_sem, *]) | ((with_reducible refine And.intro ?_ ?_); (· first | omega | (simp only [List.length_take]; omega)); try simp -implicitDefEqProofs only [go_sem, *]) | fail))
  exact fin_keep [1] (by simp) rfl (keep1 (ob := ⟨1, [0, 0, 0].map I⟩) rfl (a2_I _ _)) (.of _ _ (.agg _ _ (.cons _ _ _ _ (.same _ rfl) (.cons _ _ _ _ (.same _ rfl) (.cons _ _ _ _ (.own _ _ _ _ _ rfl) .nil))))) ⟨rfl, rfl⟩
/-- A code: some bytes. -/
structure Cod (l : List Int) : Prop where
  byt : Byt l
  len : l.length ≤ 2000
theorem pick_c' {l : List Int} {p : Nat} {n : Int} (h : Cod l) (hp : p < 1000000) (hn : 1 ≤ n) : AFnX Tryz.prog 21 [.ref 0 2 0 0, I n] [oR l p] (PickJ n) (fun k => I k) (fun _ => [oR l (p + 1)]) [] := pick_c l p n h.byt h.len (by omega) hn
theorem pick_at {l : List Int} {p : Nat} {n : Int} {d : Tmp} {tm : List AV} {T : Store} {mv : List Nat} {K : St → Prop} (h : Cod l) (hp : p < 1000000) (hn : 1 ≤ n) (hk : ∀ k, PickJ n k → K ⟨tm.set d (I k), oR l (p + 1) :: T, mv⟩) :
    afterR Tryz.prog (.enter 21 [.ref 0 2 0 0, I n]) (some d) ⟨tm, oR l p :: T, mv⟩ K := by
  refine enter_at [0] (M2 := []) (pick_c' h hp hn) (by decide) (.cons _ _ _ _ _ rfl rfl (a2_1 rfl) .nil) (.cons _ _ _ _ (rnT_ref rfl) (.cons _ _ _ _ rnT_prim .nil)) rfl fun k hk' => ?_
  have := hk k hk'
  simpa only [scT_nil, scS_nil, putS_cons, putS_nil, List.set_cons_zero, rn_prim, rnO_agg, rn0_sl, rn0_prim, List.map_cons, List.map_nil, List.nil_append] using this
theorem hd1 {S : Store} {mv : List Nat} {o : AObj} (h : getO S 0 = some o) (hn : o.es ≠ []) (m0 : mv.contains 0 = false) : ∀ i, i < 1 → mv.contains i = false ∧ (∃ o, getO S i = some o ∧ o.es ≠ []) ∧ (([] : List Nat).contains i = false → [0][i]? = some i) := by
  intro i hi
  obtain rfl : i = 0 := by omega
  exact ⟨m0, ⟨_, h, hn⟩, fun _ => rfl⟩
theorem dropI {K : List Nat} {S : Store} {n0 i off len : Nat} {l : List Int} (hi : n0 ≤ i) (hK : i ∉ K) (ho : getO S i = some ⟨1, l.map I⟩) (hl : off + len ≤ l.length) : Rd0 K S n0 (.own i 1 off len) (ints ((l.drop off).take len)) := by
  refine .drop i 1 off len _ _ hi hK ho rfl (by simpa using hl) ?_
  simp only [← List.map_drop, ← List.map_take]
  exact isDs_I _
theorem rd_pg {K : List Nat} {S : Store} {n0 i off len : Nat} {l : List Int} {a b : Int} (hi : n0 ≤ i) (hK : i ∉ K) (ho : getO S i = some ⟨1, l.map I⟩) (hl : off + len ≤ l.length) : RdT K S n0 (.agg [I a, I b, .own i 1 off len]) (pA ⟨a, b, (l.drop off).take len⟩) :=
  .of _ _ (.agg _ _ (.cons _ _ _ _ (.rn _ _ (.same _ rfl)) (.cons _ _ _ _ (.rn _ _ (.same _ rfl)) (.cons _ _ _ _ (dropI hi hK ho hl) .nil))))
theorem fin_page {l vs : List Int} {p p' off len : Nat} {a b : Int} {o1 o3 : Option AObj} (hv : vs.length ≤ 3) (hl : off + len ≤ vs.length) (h1 : p ≤ p') (h2 : p' ≤ p + 20) :
    Fin 1 (.agg [I a, I b, .own 2 1 off len]) [oR l p', o1, some ⟨1, vs.map I⟩, o3] [] (fun r S' mv => ∃ x : Pg × Nat, (x.1.vals.length ≤ 3 ∧ p ≤ x.2 ∧ x.2 ≤ p + 20) ∧ r = pA x.1 ∧ S' = [oR l x.2] ∧ mv = []) :=
  fin_drop [0] [] (by simp) rfl (by decide) (keep1 (ob := ⟨2, [.agg [bts l, I (p' : Int)]]⟩) rfl (a2_1 rfl)) (hd1 (o := ⟨2, [.agg [bts l, I (p' : Int)]]⟩) rfl (by simp) rfl)
    (rd_pg (i := 2) (off := off) (len := len) (l := vs) (a := a) (b := b) (by decide) (by decide) rfl hl) ⟨(⟨a, b, (vs.drop off).take len⟩, p'), ⟨by simp; omega, h1, h2⟩, rfl, rfl, rfl⟩
theorem l71Page_c (l : List Int) (p : Nat) (hC : Cod l) (hp : p < 900000) : AFnX Tryz.prog 107 [.ref 0 2 0 0] [oR l p] (fun q : Pg × Nat => q.1.vals.length ≤ 3 ∧ p ≤ q.2 ∧ q.2 ≤ p + 20) (fun q => pA q.1) (fun q => [oR l q.2]) [] := by
  refine afnx_awp Tryz.func107 rfl rfl ?_
  refine awp_seqc ?_
  simp -implicitDefEqProofs only [go_sem, Tryz.f107]
  refine awp_seqc ?_
  simp -implicitDefEqProofs only [go_sem, true_and]
  (repeat' (first | ((with_reducible first | refine gon ?_ ?_ | refine gos ?_ ?_ | refine cdn ?_ ?_ | refine cds ?_ ?_ | refine gpn ?_ ?_ | refine gps ?_ ?_) <;> intro h <;> (try simp only [dt, df, gi, gt] at h) <;> try simp -implicitDefEqProofs only [go_sem, *]) | ((with_reducible refine And.intro ?_ ?_); (· first | omega | (simp only [List.length_take]; omega)); try simp -implicitDefEqProofs only [go_sem, *]) | ((with_reducible refine enter_fn (PageNew_own) ?_ ?_); (· rfl); try simp -implicitDefEqProofs only [go_sem, *])))
  refine awp_seqc ?_
  simp -implicitDefEqProofs only [go_sem, true_and]
  (repeat' (first | ((with_reducible first | refine gon ?_ ?_ | refine gos ?_ ?_ | refine cdn ?_ ?_ | refine cds ?_ ?_ | refine gpn ?_ ?_ | refine gps ?_ ?_) <;> intro h <;> (try simp only [dt, df, gi, gt] at h) <;> try simp -implicitDefEqProofs only [go_sem, *]) | ((with_reducible refine And.intro ?_ ?_); (· first | omega | (simp only [List.length_take]; omega)); try simp -implicitDefEqProofs only [go_sem, *]) | ((with_reducible refine pick_at hC ?_ ?_ ?_); (· omega); (· first | decide | omega); rintro k1 hk1; try simp -implicitDefEqProofs only [go_sem, *])))
  refine awp_cut (fun q : Int × Int × List Int × Nat => ⟨(.ref 0 2 0 0 :: .any :: .ref 1 3 0 0 :: .ref 3 3 0 0 :: .any :: .any :: .any :: .any :: .any :: .any :: .any :: .any :: .any :: .any :: .any :: .any :: .any :: .any :: .any :: .any :: .any :: .any :: .any :: .any :: .any :: .any :: .any :: .any :: .any :: .any :: .any :: .any :: .any :: .any :: .any :: .any :: .any :: .any :: .any :: .any :: .any :: .any :: .any :: .any :: .any :: .any :: .any :: .any :: .any :: .any :: .any :: .any :: .any :: .any :: .any :: .any :: .any :: .any :: .any :: .any :: []), [oR l q.2.2.2, some ⟨3, [.agg [I 0, I 0, .prim (.slice none 0 0)]]⟩, some ⟨1, q.2.2.1.map I⟩, some ⟨3, [.agg [I q.1, I q.2.1, .own 2 1 0 3]]⟩], []⟩) (fun q => q.2.2.1.length = 3 ∧ p ≤ q.2.2.2 ∧ q.2.2.2 ≤ p + 9) ?_ ?_
  · simp -implicitDefEqProofs only [go_sem, true_and]
    (repeat' (first | ((with_reducible first | refine gon ?_ ?_ | refine gos ?_ ?_ | refine cdn ?_ ?_ | refine cds ?_ ?_ | refine gpn ?_ ?_ | refine gps ?_ ?_) <;> intro h <;> (try simp only [dt, df, gi, gt] at h) <;> try simp -implicitDefEqProofs only [go_sem, *]) | ((with_reducible refine And.intro ?_ ?_); (· first | omega | (simp only [List.length_take]; omega)); try simp -implicitDefEqProofs only [go_sem, *]) | ((with_reducible refine pick_at hC ?_ ?_ ?_); (· omega); (· first | decide | omega); rintro k2 hk2; try simp -implicitDefEqProofs only [go_sem, *])))
    · refine cp_loop (fun q : Nat × List Int × Nat => ⟨(.ref 0 2 0 0 :: .any :: .ref 1 3 0 0 :: .ref 3 3 0 0 :: I (q.1 : Int) :: .any :: .any :: .any :: .any :: .any :: .any :: .any :: .any :: .any :: .any :: .any :: .any :: .any :: .any :: .any :: .any :: .any :: .any :: .any :: .any :: .any :: .any :: .any :: .any :: .any :: .any :: .any :: .any :: .any :: .any :: .any :: .any :: .any :: .any :: .any :: .any :: .any :: .any :: .any :: .any :: .any :: .any :: .any :: .any :: .any :: .any :: .any :: .any :: .any :: .any :: .any :: .any :: .any :: .any :: .any :: []), [oR l q.2.2, some ⟨3, [.agg [I 0, I 0, .prim (.slice none 0 0)]]⟩, some ⟨1, q.2.1.map I⟩, some ⟨3, [.agg [I k1, I (IntKind.i64.wrap (1 + k2)), .own 2 1 0 3]]⟩], []⟩) (fun q => q.1 ≤ 3 ∧ q.2.1.length = 3 ∧ p ≤ q.2.2 ∧ q.2.2 ≤ p + 3 + 2 * q.1) (fun q => 3 - q.1) (0, [0, 0, 0], p + 3) ?_ ?_ ?_
      · exact ⟨by omega, rfl, by simp only; omega, by simp only; omega⟩
      · refine wk_tm ?_; repeat (first | exact WL.nil | (with_reducible refine WL.any _ _ _ ?_) | (with_reducible refine WL.same _ _ _ ?_) | (refine WL.eq _ _ _ _ rfl ?_))
      · rintro ⟨i, vs, p'⟩ ⟨hi3, hvl, hp1, hp2⟩
        simp only at hi3 hvl hp1 hp2
        have hib : i < 4611686018427387904 := by omega
        by_cases hil : i < 3
        · have hl1 : (i : Int) < ((3 : Nat) : Int) := by omega
          simp -implicitDefEqProofs only [go_sem, hl1]
          (repeat' (first | ((with_reducible first | refine gon ?_ ?_ | refine gos ?_ ?_ | refine cdn ?_ ?_ | refine cds ?_ ?_ | refine gpn ?_ ?_ | refine gps ?_ ?_) <;> intro h <;> (try simp only [dt, df, gi, gt] at h) <;> try simp -implicitDefEqProofs only [go_sem, *]) | ((with_reducible refine And.intro ?_ ?_); (· first | omega | (simp only [List.length_take]; omega)); try simp -implicitDefEqProofs only [go_sem, *]) | ((with_reducible refine pick_at hC ?_ ?_ ?_); (· omega); (· first | decide | omega); rintro k3 hk3; try simp -implicitDefEqProofs only [go_sem, *])))
          · refine cp_drawG (id := 9) 7 (fun S => getO S 3 = some ⟨3, [.agg [I k1, I (IntKind.i64.wrap (1 + k2)), .own 2 1 0 3]]⟩) mixed rfl ?_
            ((refine expG_get 0 (.ref 3 3 0 2) rfl ?_ ?_ ?_ ?_ ?_); (· decide +kernel); (· decide +kernel); (· rfl); (· (intro S hS0; simp -implicitDefEqProofs only [go_sem, hS0, *])); try simp -implicitDefEqProofs only [go_sem, List.set_cons_succ, List.set_cons_zero])
            ((refine expG_get 1 (.own 2 1 0 3) rfl ?_ ?_ ?_ ?_ ?_); (· decide +kernel); (· decide +kernel); (· rfl); (· (intro S hS0; simp -implicitDefEqProofs only [go_sem, hS0, *])); try simp -implicitDefEqProofs only [go_sem, List.set_cons_succ, List.set_cons_zero])
            ((refine expG_get 2 (I i) rfl ?_ ?_ ?_ ?_ ?_); (· decide +kernel); (· decide +kernel); (· rfl); (· (intro S hS0; simp -implicitDefEqProofs only [go_sem, hS0, *])); try simp -implicitDefEqProofs only [go_sem, List.set_cons_succ, List.set_cons_zero])
            ((refine expG_get 3 (.ref 0 2 0 0) rfl ?_ ?_ ?_ ?_ ?_); (· decide +kernel); (· decide +kernel); (· rfl); (· (intro S hS0; simp -implicitDefEqProofs only [go_sem, hS0, *])); try simp -implicitDefEqProofs only [go_sem, List.set_cons_succ, List.set_cons_zero])
            ((with_reducible refine expG_one 4 ?_ ?_); (· decide +kernel); try simp -implicitDefEqProofs only [go_sem, *])
            ((with_reducible refine pick_at hC ?_ ?_ ?_); (· omega); (· first | decide | omega); rintro k4 hk4; try simp -implicitDefEqProofs only [go_sem, *])
            ((with_reducible refine expG_one 5 ?_ ?_); (· decide +kernel); try simp -implicitDefEqProofs only [go_sem, *])
            ((with_reducible refine expG_one 6 ?_ ?_); (· decide +kernel); try simp -implicitDefEqProofs only [go_sem, *])
            (repeat' (first | ((with_reducible first | refine gon ?_ ?_ | refine gos ?_ ?_ | refine cdn ?_ ?_ | refine cds ?_ ?_ | refine gpn ?_ ?_ | refine gps ?_ ?_) <;> intro h <;> (try simp only [dt, df, gi, gt] at h) <;> try simp -implicitDefEqProofs only [go_sem, *]) | ((with_reducible refine And.intro ?_ ?_); (· first | omega | (simp only [List.length_take]; omega)); try simp -implicitDefEqProofs only [go_sem, *]) | ((with_reducible refine expG_end ?_ ?_); (· decide +kernel); try simp -implicitDefEqProofs only [go_sem, *])))
            refine ⟨(i + 1, vs.set i k4, p' + 2), ⟨by simp only; omega, by simp [hvl], by simp only; omega, by simp only; omega⟩, by simp only; omega, ?_⟩
            refine wk_tm ?_; repeat (first | exact WL.nil | (with_reducible refine WL.any _ _ _ ?_) | (with_reducible refine WL.same _ _ _ ?_) | (refine WL.eq _ _ _ _ rfl ?_))
          · refine ⟨(i + 1, vs, p' + 1), ⟨by simp only; omega, hvl, by simp only; omega, by simp only; omega⟩, by simp only; omega, ?_⟩
            refine wk_tm ?_; repeat (first | exact WL.nil | (with_reducible refine WL.any _ _ _ ?_) | (with_reducible refine WL.same _ _ _ ?_) | (refine WL.eq _ _ _ _ rfl ?_))
        · have hl1 : ¬ (i : Int) < ((3 : Nat) : Int) := by omega
          simp -implicitDefEqProofs only [go_sem, hl1]
          (repeat' (first | ((with_reducible first | refine gon ?_ ?_ | refine gos ?_ ?_ | refine cdn ?_ ?_ | refine cds ?_ ?_ | refine gpn ?_ ?_ | refine gps ?_ ?_) <;> intro h <;> (try simp only [dt, df, gi, gt] at h) <;> try simp -implicitDefEqProofs only [go_sem, *]) | ((with_reducible refine And.intro ?_ ?_); (· first | omega | (simp only [List.length_take]; omega)); try simp -implicitDefEqProofs only [go_sem, *]) | fail))
          refine ⟨(k1, IntKind.i64.wrap (1 + k2), vs, p'), ⟨hvl, by simp only; omega, by simp only; omega⟩, ?_⟩
          refine wk_tm ?_; repeat (first | exact WL.nil | (with_reducible refine WL.any _ _ _ ?_) | (with_reducible refine WL.same _ _ _ ?_) | (refine WL.eq _ _ _ _ rfl ?_))
    · refine ⟨(k1, 0, [0, 0, 0], p + 2), ⟨rfl, by simp only; omega, by simp only; omega⟩, ?_⟩
      refine wk_tm ?_; repeat (first | exact WL.nil | (with_reducible refine WL.any _ _ _ ?_) | (with_reducible refine WL.same _ _ _ ?_) | (refine WL.eq _ _ _ _ rfl ?_))
  rintro ⟨a, b, vs, p'⟩ ⟨hvl, hp1, hp2⟩
  simp only at hvl hp1 hp2
  refine codeP_sound _ _ _ ?_
  simp only
  simp -implicitDefEqProofs only [go_sem, true_and]
  (repeat' (first | ((with_reducible first | refine gon ?_ ?_ | refine gos ?_ ?_ | refine cdn ?_ ?_ | refine cds ?_ ?_ | refine gpn ?_ ?_ | refine gps ?_ ?_) <;> intro h <;> (try simp only [dt, df, gi, gt] at h) <;> try simp -implicitDefEqProofs only [go_sem, *]) | ((with_reducible refine And.intro ?_ ?_); (· first | omega | (simp only [List.length_take]; omega)); try simp -implicitDefEqProofs only [go_sem, *]) | first | ((with_reducible refine pick_at hC ?_ ?_ ?_); (· omega); (· first | decide | omega); rintro k2 hk2; try simp -implicitDefEqProofs only [go_sem, *])))
  rotate_left
  · refine cp_drawG (id := 14) 12 (fun S => getO S 3 = some ⟨3, [.agg [I a, I b, .own 2 1 0 3]]⟩) mixed rfl ?_
    ((refine expG_get 0 (.ref 3 3 0 2) rfl ?_ ?_ ?_ ?_ ?_); (· decide +kernel); (· decide +kernel); (· rfl); (· (intro S hS0; simp -implicitDefEqProofs only [go_sem, hS0, *])); try simp -implicitDefEqProofs only [go_sem, List.set_cons_succ, List.set_cons_zero])
    ((refine expG_get 1 (.own 2 1 0 3) rfl ?_ ?_ ?_ ?_ ?_); (· decide +kernel); (· decide +kernel); (· rfl); (· (intro S hS0; simp -implicitDefEqProofs only [go_sem, hS0, *])); try simp -implicitDefEqProofs only [go_sem, List.set_cons_succ, List.set_cons_zero])
    ((refine expG_get 2 (.ref 0 2 0 0) rfl ?_ ?_ ?_ ?_ ?_); (· decide +kernel); (· decide +kernel); (· rfl); (· (intro S hS0; simp -implicitDefEqProofs only [go_sem, hS0, *])); try simp -implicitDefEqProofs only [go_sem, List.set_cons_succ, List.set_cons_zero])
    ((refine expG_get 3 (.ref 3 3 0 2) rfl ?_ ?_ ?_ ?_ ?_); (· decide +kernel); (· decide +kernel); (· rfl); (· (intro S hS0; simp -implicitDefEqProofs only [go_sem, hS0, *])); try simp -implicitDefEqProofs only [go_sem, List.set_cons_succ, List.set_cons_zero])
    ((refine expG_get 4 (.own 2 1 0 3) rfl ?_ ?_ ?_ ?_ ?_); (· decide +kernel); (· decide +kernel); (· rfl); (· (intro S hS0; simp -implicitDefEqProofs only [go_sem, hS0, *])); try simp -implicitDefEqProofs only [go_sem, List.set_cons_succ, List.set_cons_zero])
    ((refine expG_get 5 (I ((3 : Nat) : Int)) rfl ?_ ?_ ?_ ?_ ?_); (· decide +kernel); (· decide +kernel); (· rfl); (· (intro S hS0; simp -implicitDefEqProofs only [go_sem, hS0, *])); try simp -implicitDefEqProofs only [go_sem, List.set_cons_succ, List.set_cons_zero])
    ((refine expG_get 7 (.ref 0 2 0 0) rfl ?_ ?_ ?_ ?_ ?_); (· decide +kernel); (· decide +kernel); (· rfl); (· (intro S hS0; simp -implicitDefEqProofs only [go_sem, hS0, *])); try simp -implicitDefEqProofs only [go_sem, List.set_cons_succ, List.set_cons_zero])
    ((with_reducible refine expG_one 6 ?_ ?_); (· decide +kernel); try simp -implicitDefEqProofs only [go_sem, *])
    ((with_reducible refine pick_at hC ?_ ?_ ?_); (· omega); (· first | decide | omega); rintro k3 hk3; try simp -implicitDefEqProofs only [go_sem, *])
    ((with_reducible refine expG_one 8 ?_ ?_); (· decide +kernel); try simp -implicitDefEqProofs only [go_sem, *])
    ((with_reducible refine pick_at hC ?_ ?_ ?_); (· omega); (· first | decide | omega); rintro k4 hk4; try simp -implicitDefEqProofs only [go_sem, *])
    have hk3' : 0 ≤ k3 ∧ k3 < 3 := hk3
    ((with_reducible refine expG_one 9 ?_ ?_); (· decide +kernel); try simp -implicitDefEqProofs only [go_sem, *])
    ((with_reducible refine expG_one 10 ?_ ?_); (· decide +kernel); try simp -implicitDefEqProofs only [go_sem, *])
    (repeat' (first | ((with_reducible first | refine gon ?_ ?_ | refine gos ?_ ?_ | refine cdn ?_ ?_ | refine cds ?_ ?_ | refine gpn ?_ ?_ | refine gps ?_ ?_) <;> intro h <;> (try simp only [dt, df, gi, gt] at h) <;> try simp -implicitDefEqProofs only [go_sem, *]) | ((with_reducible refine And.intro ?_ ?_); (· first | omega | (simp only [List.length_take]; omega)); try simp -implicitDefEqProofs only [go_sem, *]) | ((with_reducible refine expG_one 11 ?_ ?_); (· decide +kernel); try simp -implicitDefEqProofs only [go_sem, *])))
    (repeat' (first | ((with_reducible first | refine gon ?_ ?_ | refine gos ?_ ?_ | refine cdn ?_ ?_ | refine cds ?_ ?_ | refine gpn ?_ ?_ | refine gps ?_ ?_) <;> intro h <;> (try simp only [dt, df, gi, gt] at h) <;> try simp -implicitDefEqProofs only [go_sem, *]) | ((with_reducible refine And.intro ?_ ?_); (· first | omega | (simp only [List.length_take]; omega)); try simp -implicitDefEqProofs only [go_sem, *]) | ((with_reducible refine expG_end ?_ ?_); (· decide +kernel); try simp -implicitDefEqProofs only [go_sem, *])))
    refine fin_page (vs := vs.set k3.toNat (IntKind.i64.wrap (k4 - 1))) (by simp [hvl]) (by simp [hvl]) ?_ ?_ <;> omega
  rotate_right
  all_goals refine fin_page (vs := vs) (Nat.le_of_eq hvl) ?_ ?_ ?_ <;> omega
end
section
attribute [local go_sem] slt_r slt_I slt_p ty_rd
abbrev zR : AObj := ⟨8, [.agg [I 0, I 0, I 0, I 0, I 0, I 0, I 0, I 0]]⟩
theorem rd_same {K : List Nat} {S : Store} {n0 : Nat} {xs : List AV} (h : xs.all AV.pur0 = true) : RdT K S n0 (.agg xs) (.agg xs) := by
  refine .of _ _ (.agg _ _ ?_)
  induction xs with
  | nil => exact .nil
  | cons x xs ih =>
    simp only [List.all_cons, Bool.and_eq_true] at h
    exact .cons _ _ _ _ (.rn _ _ (.same _ h.1)) (ih h.2)
theorem cut_rec {l : List Int} {tm tm' : List AV} {p p' : Nat} {a b c d e f g h : Int} {o1 : Option AObj} (h1 : p ≤ p') (h2 : p' ≤ p + 8) (hw : WL tm tm') :
    ∃ y : Rc × Nat, (p ≤ y.2 ∧ y.2 ≤ p + 8) ∧ WkN 3 ⟨tm, [oR l p', o1, some ⟨8, [.agg [I a, I b, I c, I d, I e, I f, I g, I h]]⟩], []⟩ ⟨tm', [oR l y.2, o1, some ⟨8, [rA y.1]⟩], []⟩ :=
  ⟨(⟨a, b, c, d, e, f, g, h⟩, p'), ⟨h1, h2⟩, wk_tm hw⟩
theorem fin_rec {l : List Int} {p p' : Nat} {a b c d e f g h : Int} {o1 o2 : Option AObj} (h1 : p ≤ p') (h2 : p' ≤ p + 20) :
    Fin 1 (.agg [I a, I b, I c, I d, I e, I f, I g, I h]) [oR l p', o1, o2] [] (fun r S' mv => ∃ x : Rc × Nat, (p ≤ x.2 ∧ x.2 ≤ p + 20) ∧ r = rA x.1 ∧ S' = [oR l x.2] ∧ mv = []) :=
  fin_drop [0] [] (by simp) rfl (by decide) (keep1 (ob := ⟨2, [.agg [bts l, I (p' : Int)]]⟩) rfl (a2_1 rfl)) (hd1 (o := ⟨2, [.agg [bts l, I (p' : Int)]]⟩) rfl (by simp) rfl)
    (rd_same rfl) ⟨(⟨a, b, c, d, e, f, g, h⟩, p'), ⟨h1, h2⟩, rfl, rfl, rfl⟩
theorem l71Rec_c (l : List Int) (p : Nat) (hC : Cod l) (hp : p < 900000) : AFnX Tryz.prog 129 [.ref 0 2 0 0] [oR l p] (fun q : Rc × Nat => p ≤ q.2 ∧ q.2 ≤ p + 20) (fun q => rA q.1) (fun q => [oR l q.2]) [] := by
  refine afnx_awp Tryz.func129 rfl rfl ?_
  refine awp_seqc ?_
  simp -implicitDefEqProofs only [go_sem, Tryz.f129]
  refine awp_seqc ?_
  simp -implicitDefEqProofs only [go_sem, true_and]
  (repeat' (first | ((with_reducible first | refine gon ?_ ?_ | refine gos ?_ ?_ | refine cdn ?_ ?_ | refine cds ?_ ?_ | refine gpn ?_ ?_ | refine gps ?_ ?_) <;> intro h <;> (try simp only [dt, df, gi, gt] at h) <;> try simp -implicitDefEqProofs only [go_sem, *]) | ((with_reducible refine And.intro ?_ ?_); (· first | omega | (simp only [List.length_take]; omega)); try simp -implicitDefEqProofs only [go_sem, *]) | ((with_reducible refine pick_at hC ?_ ?_ ?_); (· omega); (· first | decide | omega); rintro k1 hk1; try simp -implicitDefEqProofs only [go_sem, *])))
  refine awp_cut (fun q : Rc × Nat => ⟨(.ref 0 2 0 0 :: .any :: .ref 1 8 0 0 :: .ref 2 8 0 0 :: .any :: .any :: .any :: .any :: .any :: .any :: .any :: .any :: .any :: .any :: .any :: .any :: .any :: .any :: .any :: .any :: .any :: .any :: .any :: .any :: .any :: .any :: .any :: .any :: .any :: .any :: .any :: .any :: .any :: .any :: .any :: .any :: .any :: .any :: .any :: .any :: .any :: .any :: .any :: .any :: .any :: .any :: .any :: .any :: .any :: .any :: .any :: .any :: .any :: .any :: .any :: .any :: .any :: .any :: .any :: .any :: .any :: .any :: .any :: .any :: .any :: .any :: .any :: .any :: .any :: .any :: .any :: .any :: .any :: .any :: .any :: .any :: .any :: .any :: .any :: .any :: .any :: .any :: .any :: .any :: .any :: .any :: .any :: []), [oR l q.2, some zR, some ⟨8, [rA q.1]⟩], []⟩) (fun q => p ≤ q.2 ∧ q.2 ≤ p + 8) ?_ ?_
  · simp -implicitDefEqProofs only [go_sem, true_and]
    (repeat' (first | ((with_reducible first | refine gon ?_ ?_ | refine gos ?_ ?_ | refine cdn ?_ ?_ | refine cds ?_ ?_ | refine gpn ?_ ?_ | refine gps ?_ ?_) <;> intro h <;> (try simp only [dt, df, gi, gt] at h) <;> try simp -implicitDefEqProofs only [go_sem, *]) | ((with_reducible refine And.intro ?_ ?_); (· first | omega | (simp only [List.length_take]; omega)); try simp -implicitDefEqProofs only [go_sem, *]) | ((with_reducible refine pick_at hC ?_ ?_ ?_); (· omega); (· first | decide | omega); rintro k2 hk2; try simp -implicitDefEqProofs only [go_sem, *])))
    all_goals (refine cut_rec ?_ ?_ ?_; (· omega); (· omega); repeat (first | exact WL.nil | (with_reducible refine WL.any _ _ _ ?_) | (with_reducible refine WL.same _ _ _ ?_) | (refine WL.eq _ _ _ _ rfl ?_)))
  rintro ⟨x, p'⟩ ⟨hp1, hp2⟩
  simp only at hp1 hp2
  refine codeP_sound _ _ _ ?_
  simp only
  simp -implicitDefEqProofs only [go_sem, true_and]
  (repeat' (first | ((with_reducible first | refine gon ?_ ?_ | refine gos ?_ ?_ | refine cdn ?_ ?_ | refine cds ?_ ?_ | refine gpn ?_ ?_ | refine gps ?_ ?_) <;> intro h <;> (try simp only [dt, df, gi, gt] at h) <;> try simp -implicitDefEqProofs only [go_sem, *]) | ((with_reducible refine And.intro ?_ ?_); (· first | omega | (simp only [List.length_take]; omega)); try simp -implicitDefEqProofs only [go_sem, *]) | first | ((with_reducible refine pick_at hC ?_ ?_ ?_); (· omega); (· first | decide | omega); rintro k2 hk2; try simp -implicitDefEqProofs only [go_sem, *])))
  all_goals refine fin_rec ?_ ?_ <;> omega
end
section
attribute [local go_sem] slt_r slt_I slt_p ty_rd ty_ev
@[go_sem] theorem bsE_three {te : TI} {tm : List AV} {x y z : Operand} : bsE (some te) tm 3 #[(0, x), (1, y), (2, z)] = .new (3 * te.zs.length ≤ 16777216 ∧ ((ev tm x).ok = true ∧ (ev tm x).cells.length = te.zs.length) ∧ ((ev tm y).ok = true ∧ (ev tm y).cells.length = te.zs.length) ∧ ((ev tm z).ok = true ∧ (ev tm z).cells.length = te.zs.length))
    ⟨te.zs.length, [ev tm x, ev tm y, ev tm z]⟩ (fun i => .own i te.zs.length 0 3) := by
  simp [bsE, List.range_succ]
@[go_sem] theorem buildO_6 {tm : List AV} {b : Bool} {z0 z1 z2 z3 z4 z5 : Value} {n : Nat} {parts : List (Nat × Operand)} : buildO tm (some ⟨b, [z0, z1, z2, z3, z4, z5], n, .struct [0, 1, 2, 3, 4, 5]⟩) parts = fillV (fillR [0, 1, 2, 3, 4, 5] tm [.prim z0, .prim z1, .prim z2, .prim z3, .prim z4, .prim z5] parts) := rfl
theorem arg_eX5 {S : Store} {i j : Nat} {a b : List Pg} {l : List Rc} {s : Int} {d : Bool} (h0 : getO S i = some ⟨3, a.map pA⟩) (h1 : getO S j = some ⟨3, b.map pA⟩) (hd : 5 = a.length) (hm : 5 = b.length) : Arg S true (.agg [.own i 3 0 5, .own j 3 0 5, recs l, I s, Bo d]) (.agg [pgs a, pgs b, recs l, I s, Bo d]) :=
  .agg _ _ (.cons _ _ _ _ (arg0_p h0 hd) (.cons _ _ _ _ (arg0_p h1 hm) (.cons _ _ _ _ (.same _ rfl) (.cons _ _ _ _ (.same _ rfl) (.cons _ _ _ _ (.same _ rfl) .nil)))))
abbrev sE3 (l : List Int) (p : Nat) (e : Eng) : Store := [oR l p, oP e.disk, oP e.mem]
theorem keep3 {a b c : Nat} {S : Store} {o1 o2 o3 : AObj} (h1 : getO S a = some o1) (h2 : getO S b = some o2) (h3 : getO S c = some o3) (e1 : All2 (Rn1 [a, b, c]) o1.es o1.es) (e2 : All2 (Rn1 [a, b, c]) o2.es o2.es) (e3 : All2 (Rn1 [a, b, c]) o3.es o3.es) :
    ∀ (j k : Nat), [a, b, c][j]? = some k → ∃ (o o' : AObj), getO S k = some o ∧ [some o1, some o2, some o3][j]? = some (some o') ∧ o'.z = o.z ∧ All2 (Rn1 [a, b, c]) o.es o'.es := by
  intro j k hj
  rcases j with _ | _ | _ | j
  · simp at hj; subst hj; exact ⟨o1, o1, h1, rfl, rfl, e1⟩
  · simp at hj; subst hj; exact ⟨o2, o2, h2, rfl, rfl, e2⟩
  · simp at hj; subst hj; exact ⟨o3, o3, h3, rfl, rfl, e3⟩
  · simp at hj
theorem hd3 {S : Store} {mv : List Nat} {o1 o2 o3 : AObj} (h1 : getO S 0 = some o1) (h2 : getO S 1 = some o2) (h3 : getO S 2 = some o3) (n1 : o1.es ≠ []) (n2 : o2.es ≠ []) (n3 : o3.es ≠ []) (m : mv = []) :
    ∀ i, i < 3 → mv.contains i = false ∧ (∃ o, getO S i = some o ∧ o.es ≠ []) ∧ (([] : List Nat).contains i = false → [0, 1, 2][i]? = some i) := by
  subst m
  intro i hi
  have hi2 : i = 0 ∨ i = 1 ∨ i = 2 := by omega
  rcases hi2 with rfl | rfl | rfl
  · exact ⟨rfl, ⟨_, h1, n1⟩, fun _ => rfl⟩
  · exact ⟨rfl, ⟨_, h2, n2⟩, fun _ => rfl⟩
  · exact ⟨rfl, ⟨_, h3, n3⟩, fun _ => rfl⟩
theorem fin_ev0 {l vs : List Int} {p p' : Nat} {e : Eng} {T : Store} {a b c d n : Int} {x : AV} (hx : Rd0 [0, 1, 2] (oR l p' :: oP e.disk :: oP e.mem :: T) 3 x (ints vs)) (hd : e.disk.length = 5) (hm : e.mem.length = 5) (hn : n < 4611686018427387904) (hv : vs.length < 4611686018427387904) (h1 : p ≤ p') (h2 : p' ≤ p + 20) :
    Fin 3 (.agg [I a, I b, I c, I d, I n, x]) (oR l p' :: oP e.disk :: oP e.mem :: T) [] (fun r S' mv => ∃ q : Ev × Nat, (q.1.small ∧ p ≤ q.2 ∧ q.2 ≤ p + 20) ∧ r = evA q.1 ∧ S' = sE3 l q.2 e ∧ mv = []) :=
  fin_drop [0, 1, 2] [] (by simp) rfl (by decide) (keep3 (o1 := ⟨2, [.agg [bts l, I (p' : Int)]]⟩) (o2 := ⟨3, e.disk.map pA⟩) (o3 := ⟨3, e.mem.map pA⟩) rfl rfl rfl (a2_1 rfl) (a2_p _ _) (a2_p _ _))
    (hd3 (o1 := ⟨2, [.agg [bts l, I (p' : Int)]]⟩) (o2 := ⟨3, e.disk.map pA⟩) (o3 := ⟨3, e.mem.map pA⟩) rfl rfl rfl (by simp) (ne5 hd) (ne5 hm) rfl)
    (.of _ _ (.agg _ _ (.cons _ _ _ _ (.rn _ _ (.same _ rfl)) (.cons _ _ _ _ (.rn _ _ (.same _ rfl)) (.cons _ _ _ _ (.rn _ _ (.same _ rfl)) (.cons _ _ _ _ (.rn _ _ (.same _ rfl)) (.cons _ _ _ _ (.rn _ _ (.same _ rfl)) (.cons _ _ _ _ hx .nil)))))))) ⟨(⟨a, b, c, d, n, vs⟩, p'), ⟨⟨hn, hv⟩, h1, h2⟩, rfl, rfl, rfl⟩
abbrev zEv : AObj := ⟨6, [.agg [I 0, I 0, I 0, I 0, I 0, .prim (.slice none 0 0)]]⟩
theorem lockFrom_le (l : List Rc) (page : Int) : lockFrom l page 0 ≤ 3 := by
  rw [lockFrom_lt (by omega), lockFrom_lt (by omega), lockFrom_lt (by omega), lockFrom_ge (by omega)]
  (repeat' split) <;> omega
theorem wrap_small {n k : Int} (h : PickJ n k) (hn : n < 4611686018427387904 := by decide) : IntKind.i64.wrap (1 + k) < 4611686018427387904 := by
  have h' : 0 ≤ k ∧ k < n := h
  rw [wrap_ok (by omega) (by omega)]
  omega
theorem gd0 {a b c d : AV} : [a, b, c].getD (Int.toNat 0) d = a := rfl
theorem gd1 {a b c d : AV} : [a, b, c].getD (Int.toNat 1) d = b := rfl
theorem gd2 {a b c d : AV} : [a, b, c].getD (Int.toNat 2) d = c := rfl
theorem tmod10 (x : Int) : x.tmod 10 < 4611686018427387904 := Int.lt_of_lt_of_le (Int.tmod_lt_of_pos x (by decide)) (by decide)
theorem rd_nil {K : List Nat} {S : Store} {n0 : Nat} : Rd0 K S n0 (.prim (.slice none 0 0)) (ints []) := .nil 1 (by decide)
theorem rd_3 {S : Store} {k : Nat} {a b c : Int} (hk : 3 ≤ k) (h : getO S k = some ⟨1, [I a, I b, I c]⟩) : Rd0 [0, 1, 2] S 3 (.own k 1 0 3) (ints [a, b, c]) :=
  .drop k 1 0 3 ⟨1, [a, b, c].map I⟩ _ hk (by simp; omega) h rfl (by simp) (isDs_I [a, b, c])
theorem l71Event_c (l : List Int) (p : Nat) (e : Eng) (hC : Cod l) (hp : p < 900000) (hi : Inv e) :
    AFnX Tryz.prog 126 [.ref 0 2 0 0, eX 1 2 e] (sE3 l p e) (fun q : Ev × Nat => q.1.small ∧ p ≤ q.2 ∧ q.2 ≤ p + 20) (fun q => evA q.1) (fun q => sE3 l q.2 e) [] := by
  have hd5 := hi.disk.len
  have hm5 := hi.mem.len
  have hlen := hi.len
  have hw := hi.wf
  refine afnx_awp Tryz.func126 rfl rfl ?_
  refine awp_seqc ?_
  simp -implicitDefEqProofs only [go_sem, Tryz.f126]
  refine awp_seqc ?_
  simp -implicitDefEqProofs only [go_sem, true_and]
  (repeat' (first | ((with_reducible first | refine gon ?_ ?_ | refine gos ?_ ?_ | refine cdn ?_ ?_ | refine cds ?_ ?_ | refine gpn ?_ ?_ | refine gps ?_ ?_) <;> intro h <;> (try simp only [dt, df, gi, gt] at h) <;> try simp -implicitDefEqProofs only [go_sem, *]) | ((with_reducible refine And.intro ?_ ?_); (· first | omega | (simp only [List.length_take]; omega)); try simp -implicitDefEqProofs only [go_sem, *]) | ((with_reducible refine pick_at hC ?_ ?_ ?_); (· omega); (· first | decide | omega); rintro k1 hk1; try simp -implicitDefEqProofs only [go_sem, *])))
  refine awp_seqc ?_
  simp -implicitDefEqProofs only [go_sem, true_and]
  (repeat' (first | ((with_reducible first | refine gon ?_ ?_ | refine gos ?_ ?_ | refine cdn ?_ ?_ | refine cds ?_ ?_ | refine gpn ?_ ?_ | refine gps ?_ ?_) <;> intro h <;> (try simp only [dt, df, gi, gt] at h) <;> try simp -implicitDefEqProofs only [go_sem, *]) | ((with_reducible refine And.intro ?_ ?_); (· first | omega | (simp only [List.length_take]; omega)); try simp -implicitDefEqProofs only [go_sem, *]) | ((with_reducible refine pick_at hC ?_ ?_ ?_); (· omega); (· first | decide | omega); rintro k2 hk2; try simp -implicitDefEqProofs only [go_sem, *])))
  have hk2' : 0 ≤ k2 ∧ k2 < 5 := hk2
  refine awp_seqc ?_
  rcases hdn : e.down with _ | _
  rotate_left
  · obtain ⟨ea, eb, ec, es, ed⟩ := e
    simp only at hdn hd5 hm5
    subst hdn
    simp -implicitDefEqProofs only [go_sem, true_and]
    (repeat' (first | ((with_reducible first | refine gon ?_ ?_ | refine gos ?_ ?_ | refine cdn ?_ ?_ | refine cds ?_ ?_ | refine gpn ?_ ?_ | refine gps ?_ ?_) <;> intro h <;> (try simp only [dt, df, gi, gt] at h) <;> try simp -implicitDefEqProofs only [go_sem, *]) | ((with_reducible refine And.intro ?_ ?_); (· first | omega | (simp only [List.length_take]; omega)); try simp -implicitDefEqProofs only [go_sem, *]) | ((with_reducible refine pick_at hC ?_ ?_ ?_); (· omega); (· first | decide | omega); rintro k3 hk3; try simp -implicitDefEqProofs only [go_sem, *])))
    have hk3' : k3 = 0 ∨ k3 = 1 ∨ k3 = 2 := by have : 0 ≤ k3 ∧ k3 < 3 := hk3; omega
    rename_i k4 hk4
    have hk4' : 0 ≤ k4 ∧ k4 < 4 := hk4
    rcases hk3' with rfl | rfl | rfl
    all_goals
      simp -implicitDefEqProofs only [go_sem, gd0, gd1, gd2]
      (repeat' (first | ((with_reducible first | refine gon ?_ ?_ | refine gos ?_ ?_ | refine cdn ?_ ?_ | refine cds ?_ ?_ | refine gpn ?_ ?_ | refine gps ?_ ?_) <;> intro h <;> (try simp only [dt, df, gi, gt] at h) <;> try simp -implicitDefEqProofs only [go_sem, *]) | ((with_reducible refine And.intro ?_ ?_); (· first | omega | (simp only [List.length_take]; omega)); try simp -implicitDefEqProofs only [go_sem, *]) | fail))
      refine fin_ev0 (e := ⟨ea, eb, ec, es, true⟩) rd_nil hd5 hm5 ?_ ?_ ?_ ?_ <;> first | omega | (simp; done)
  · obtain ⟨k, hk, rfl⟩ : ∃ k : Nat, k < 5 ∧ k2 = (k : Int) := ⟨k2.toNat, by omega, by omega⟩
    clear hk2
    have hlk := l11Lock_fn e (k : Int) hw
    have hlkb : lockFrom e.log (k : Int) 0 ≤ 3 := lockFrom_le _ _
    obtain ⟨ea, eb, ec, es, ed⟩ := e
    simp only at hdn hd5 hm5 hlk hlkb hlen
    subst hdn
    simp -implicitDefEqProofs only [go_sem, true_and]
    refine awp_cut (fun q : Int × Nat × Nat => ⟨(.ref 0 2 0 0 :: eX 1 2 ⟨ea, eb, ec, es, false⟩ :: .any :: .ref 3 5 0 0 :: .ref 4 6 0 0 :: I q.1 :: I (q.2.1 : Int) :: .any :: .any :: .any :: .any :: .any :: .any :: .any :: .any :: .any :: .any :: .any :: .any :: .any :: .any :: .any :: .any :: .any :: .any :: .any :: .any :: .any :: .any :: .any :: .any :: .any :: .any :: .any :: .any :: .any :: .any :: .any :: .any :: .any :: .any :: .any :: .any :: .any :: .any :: .any :: .any :: .any :: .any :: .any :: .any :: .any :: .any :: .any :: .any :: .any :: .any :: .any :: .any :: .any :: .any :: .any :: .any :: .any :: .any :: .any :: .any :: .any :: .any :: .any :: .any :: .any :: .any :: .any :: .any :: .any :: .any :: .any :: .any :: .any :: .any :: .any :: .any :: .any :: .any :: .any :: .any :: .any :: .any :: .any :: .any :: .any :: .any :: .any :: .any :: .any :: .any :: .any :: .any :: .any :: .any :: .any :: .any :: .any :: .any :: .any :: .any :: .any :: .any :: .any :: .any :: .any :: .any :: .any :: .any :: .any :: .any :: .any :: .any :: .any :: .any :: .any :: .any :: .any :: .any :: .any :: .any :: .any :: .any :: .any :: .any :: .any :: .any :: .any :: .any :: .any :: .any :: .any :: []), [oR l q.2.2, oP ea, oP eb, some ⟨5, [eX 1 2 ⟨ea, eb, ec, es, false⟩]⟩, some zEv], []⟩) (fun q => q.2.1 < 5 ∧ p ≤ q.2.2 ∧ q.2.2 ≤ p + 5) ?_ ?_
    · simp -implicitDefEqProofs only [go_sem, true_and]
      (repeat' (first | ((with_reducible first | refine gon ?_ ?_ | refine gos ?_ ?_ | refine cdn ?_ ?_ | refine cds ?_ ?_ | refine gpn ?_ ?_ | refine gps ?_ ?_) <;> intro h <;> (try simp only [dt, df, gi, gt] at h) <;> try simp -implicitDefEqProofs only [go_sem, *]) | ((with_reducible refine And.intro ?_ ?_); (· first | omega | (simp only [List.length_take]; omega)); try simp -implicitDefEqProofs only [go_sem, *]) | first | ((with_reducible refine pick_at hC ?_ ?_ ?_); (· omega); (· first | decide | omega); rintro k3 hk3; try simp -implicitDefEqProofs only [go_sem, *]) | ((with_reducible refine enter_own (hlk) ?_ rfl rfl ?_); (· repeat (first | exact All2.nil | (refine All2.cons _ _ _ _ ?_ ?_; (· first | exact arg_same rfl | exact arg_eX5 rfl rfl (by first | omega | (simp; omega)) (by first | omega | (simp; omega)) | exact arg_eX rfl rfl (by first | omega | (simp; omega)) (by first | omega | (simp; omega)) | exact .of1 _ _ (.of0 _ _ (arg0_r rfl (by simp))))))); try simp -implicitDefEqProofs only [go_sem, *])))
      all_goals try (refine fin_ev0 (e := ⟨ea, eb, ec, es, false⟩) rd_nil hd5 hm5 ?_ ?_ ?_ ?_ <;> first | omega | (simp; done) | exact wrap_small (n := 3) (by assumption))
      all_goals try (refine fin_ev0 (e := ⟨ea, eb, ec, es, false⟩) (rd_3 (by decide) rfl) hd5 hm5 ?_ ?_ ?_ ?_ <;> first | omega | (simp; done))
      rotate_left
      · refine ⟨(IntKind.i64.wrap (1 + k1), k, p + 3), ⟨hk, by simp only; omega, by simp only; omega⟩, ?_⟩
        refine wk_tm ?_; repeat (first | exact WL.nil | (with_reducible refine WL.any _ _ _ ?_) | (with_reducible refine WL.same _ _ _ ?_) | (refine WL.eq _ _ _ _ rfl ?_))
      · clear hlk
        refine cp_drawG (id := 26) 14 (fun S => getO S 3 = some ⟨5, [eX 1 2 ⟨ea, eb, ec, es, false⟩]⟩) mixed rfl ?_
        ((refine expG_get 0 (.ref 3 5 0 2) rfl ?_ ?_ ?_ ?_ ?_); (· decide +kernel); (· decide +kernel); (· rfl); (· (intro S hS0; simp -implicitDefEqProofs only [go_sem, hS0, *])); try simp -implicitDefEqProofs only [go_sem, List.set_cons_succ, List.set_cons_zero])
        ((refine expG_get 1 (recs ec) rfl ?_ ?_ ?_ ?_ ?_); (· decide +kernel); (· decide +kernel); (· rfl); (· (intro S hS0; simp -implicitDefEqProofs only [go_sem, hS0, *])); try simp -implicitDefEqProofs only [go_sem, List.set_cons_succ, List.set_cons_zero])
        ((refine expG_get 2 (I ec.length) rfl ?_ ?_ ?_ ?_ ?_); (· decide +kernel); (· decide +kernel); (· rfl); (· (intro S hS0; simp -implicitDefEqProofs only [go_sem, hS0, *])); try simp -implicitDefEqProofs only [go_sem, List.set_cons_succ, List.set_cons_zero])
        ((refine expG_get 3 (.ref 0 2 0 0) rfl ?_ ?_ ?_ ?_ ?_); (· decide +kernel); (· decide +kernel); (· rfl); (· (intro S hS0; simp -implicitDefEqProofs only [go_sem, hS0, *])); try simp -implicitDefEqProofs only [go_sem, List.set_cons_succ, List.set_cons_zero])
        ((refine expG_get 8 (.ref 0 2 0 0) rfl ?_ ?_ ?_ ?_ ?_); (· decide +kernel); (· decide +kernel); (· rfl); (· (intro S hS0; simp -implicitDefEqProofs only [go_sem, hS0, *])); try simp -implicitDefEqProofs only [go_sem, List.set_cons_succ, List.set_cons_zero])
        ((with_reducible refine expG_one 4 ?_ ?_); (· decide +kernel); try simp -implicitDefEqProofs only [go_sem, *])
        ((with_reducible refine pick_at hC ?_ ?_ ?_); (· omega); (· first | decide | omega); rintro k4 hk4; try simp -implicitDefEqProofs only [go_sem, *])
        have hk4' : 0 ≤ k4 ∧ k4 < 4 := hk4
        have hwr : IntKind.i64.wrap ((ec.length : Int) - k4) = (ec.length : Int) - k4 := wrap_ok (by omega) (by omega)
        ((refine expG_get 5 (I ((ec.length : Int) - k4)) rfl ?_ ?_ ?_ ?_ ?_); (· decide +kernel); (· decide +kernel); (· rfl); (· (intro S hS0; simp -implicitDefEqProofs only [go_sem, hS0, *])); try simp -implicitDefEqProofs only [go_sem, List.set_cons_succ, List.set_cons_zero])
        ((refine expG_get 6 (I (max ((ec.length : Int) - k4) 0)) rfl ?_ ?_ ?_ ?_ ?_); (· decide +kernel); (· decide +kernel); (· rfl); (· (intro S hS0; simp -implicitDefEqProofs only [go_sem, hS0, *])); try simp -implicitDefEqProofs only [go_sem, List.set_cons_succ, List.set_cons_zero])
        ((with_reducible refine expG_two 7 9 ?_ ?_ ?_); (· decide +kernel); all_goals (try simp -implicitDefEqProofs only [go_sem, *]))
        rotate_left
        · ((with_reducible refine pick_at hC ?_ ?_ ?_); (· omega); (· first | decide | omega); rintro k5 hk5; try simp -implicitDefEqProofs only [go_sem, *])
          have hk5' : k5 = 0 ∨ k5 = 1 ∨ k5 = 2 := by have : 0 ≤ k5 ∧ k5 < 3 := hk5; omega
          ((with_reducible refine expG_one 7 ?_ ?_); (· decide +kernel); try simp -implicitDefEqProofs only [go_sem, *])
          rcases hk5' with rfl | rfl | rfl
          all_goals
            (repeat' (first | ((with_reducible first | refine gon ?_ ?_ | refine gos ?_ ?_ | refine cdn ?_ ?_ | refine cds ?_ ?_ | refine gpn ?_ ?_ | refine gps ?_ ?_) <;> intro h <;> (try simp only [dt, df, gi, gt] at h) <;> try simp -implicitDefEqProofs only [go_sem, *]) | ((with_reducible refine And.intro ?_ ?_); (· first | omega | (simp only [List.length_take]; omega)); try simp -implicitDefEqProofs only [go_sem, *]) | first | ((with_reducible refine expG_one 10 ?_ ?_); (· decide +kernel); try simp -implicitDefEqProofs only [go_sem, *]) | ((with_reducible refine expG_one 11 ?_ ?_); (· decide +kernel); try simp -implicitDefEqProofs only [go_sem, *]) | simp only [gd0, gd1, gd2] | ((with_reducible refine expG_one 12 ?_ ?_); (· decide +kernel); try simp -implicitDefEqProofs only [go_sem, *]) | ((with_reducible refine expG_one 13 ?_ ?_); (· decide +kernel); try simp -implicitDefEqProofs only [go_sem, *]) | ((with_reducible refine expG_end ?_ ?_); (· decide +kernel); try simp -implicitDefEqProofs only [go_sem, *])))
            refine fin_ev0 (e := ⟨ea, eb, ec, es, false⟩) rd_nil hd5 hm5 ?_ ?_ ?_ ?_ <;> first | omega | (simp; done)
        · ((with_reducible refine expG_one 9 ?_ ?_); (· decide +kernel); try simp -implicitDefEqProofs only [go_sem, *])
          ((with_reducible refine pick_at hC ?_ ?_ ?_); (· omega); (· first | decide | omega); rintro k5 hk5; try simp -implicitDefEqProofs only [go_sem, *])
          have hk5' : k5 = 0 ∨ k5 = 1 ∨ k5 = 2 := by have : 0 ≤ k5 ∧ k5 < 3 := hk5; omega
          rcases hk5' with rfl | rfl | rfl
          all_goals
            (repeat' (first | ((with_reducible first | refine gon ?_ ?_ | refine gos ?_ ?_ | refine cdn ?_ ?_ | refine cds ?_ ?_ | refine gpn ?_ ?_ | refine gps ?_ ?_) <;> intro h <;> (try simp only [dt, df, gi, gt] at h) <;> try simp -implicitDefEqProofs only [go_sem, *]) | ((with_reducible refine And.intro ?_ ?_); (· first | omega | (simp only [List.length_take]; omega)); try simp -implicitDefEqProofs only [go_sem, *]) | first | ((with_reducible refine expG_one 10 ?_ ?_); (· decide +kernel); try simp -implicitDefEqProofs only [go_sem, *]) | ((with_reducible refine expG_one 11 ?_ ?_); (· decide +kernel); try simp -implicitDefEqProofs only [go_sem, *]) | simp only [gd0, gd1, gd2] | ((with_reducible refine expG_one 12 ?_ ?_); (· decide +kernel); try simp -implicitDefEqProofs only [go_sem, *]) | ((with_reducible refine expG_one 13 ?_ ?_); (· decide +kernel); try simp -implicitDefEqProofs only [go_sem, *]) | ((with_reducible refine expG_end ?_ ?_); (· decide +kernel); try simp -implicitDefEqProofs only [go_sem, *])))
            refine fin_ev0 (e := ⟨ea, eb, ec, es, false⟩) rd_nil hd5 hm5 ?_ ?_ ?_ ?_ <;> first | omega | (simp; done)
    clear hlk hlkb hk hk2'
    rintro ⟨tx, k, p'⟩ ⟨hk, hp1, hp2⟩
    simp only at hk hp1 hp2
    refine codeP_sound _ _ _ ?_
    simp only
    simp -implicitDefEqProofs only [go_sem, true_and]
    refine cp_loop (fun q : Nat × Nat × Nat => ⟨(.ref 0 2 0 0 :: eX 1 2 ⟨ea, eb, ec, es, false⟩ :: .any :: .ref 3 5 0 0 :: .ref 4 6 0 0 :: I tx :: I (q.2.1 : Int) :: .any :: I (q.1 : Int) :: .any :: .any :: .any :: .any :: .any :: .any :: .any :: .any :: .any :: .any :: .any :: .any :: .any :: .any :: .any :: .any :: .any :: .any :: .any :: .any :: .any :: .any :: .any :: .any :: .any :: .any :: .any :: .any :: .any :: .any :: .any :: .any :: .any :: .any :: .any :: .any :: .any :: .any :: .any :: .any :: .any :: .any :: .any :: .any :: .any :: .any :: .any :: .any :: .any :: .any :: .any :: .any :: .any :: .any :: .any :: .any :: .any :: .any :: .any :: .any :: .any :: .any :: .any :: .any :: .any :: .any :: .any :: .any :: .any :: .any :: .any :: .any :: .any :: .any :: .any :: .any :: .any :: .any :: .any :: .any :: .any :: .any :: .any :: .any :: .any :: .any :: .any :: .any :: .any :: .any :: .any :: .any :: .any :: .any :: .any :: .any :: .any :: .any :: .any :: .any :: .any :: .any :: .any :: .any :: .any :: .any :: .any :: .any :: .any :: .any :: .any :: .any :: .any :: .any :: .any :: .any :: .any :: .any :: .any :: .any :: .any :: .any :: .any :: .any :: .any :: .any :: .any :: .any :: .any :: []), [oR l q.2.2, oP ea, oP eb, some ⟨5, [eX 1 2 ⟨ea, eb, ec, es, false⟩]⟩, some zEv], []⟩) (fun q => q.1 ≤ 4 ∧ q.2.1 < 5 ∧ p ≤ q.2.2 ∧ q.2.2 ≤ p + 5 + q.1) (fun q => 4 - q.1) (0, k, p') ?_ ?_ ?_
    · exact ⟨by omega, hk, hp1, by simp only; omega⟩
    · refine wk_tm ?_; repeat (first | exact WL.nil | (with_reducible refine WL.any _ _ _ ?_) | (with_reducible refine WL.same _ _ _ ?_) | (refine WL.eq _ _ _ _ rfl ?_))
    · rintro ⟨i, j, p2⟩ ⟨hi4, hj, hp3, hp4⟩
      simp only at hi4 hj hp3 hp4
      have hib : i < 4611686018427387904 := by omega
      have hj5 : (j : Int) < 5 := by omega
      have hlk := l11Lock_fn ⟨ea, eb, ec, es, false⟩ (j : Int) hw
      have hlkb : lockFrom ec (j : Int) 0 ≤ 3 := lockFrom_le _ _
      simp only at hlk
      by_cases hgo : (i : Int) < 4 ∧ ((at' eb (j : Int)).owner == 0) = true
      · obtain ⟨g1, g2⟩ := hgo
        clear hlk
        simp -implicitDefEqProofs only [go_sem, g1]
        (repeat' (first | ((with_reducible first | refine gon ?_ ?_ | refine gos ?_ ?_ | refine cdn ?_ ?_ | refine cds ?_ ?_ | refine gpn ?_ ?_ | refine gps ?_ ?_) <;> intro h <;> (try simp only [dt, df, gi, gt] at h) <;> try simp -implicitDefEqProofs only [go_sem, *]) | ((with_reducible refine And.intro ?_ ?_); (· first | omega | (simp only [List.length_take]; omega)); try simp -implicitDefEqProofs only [go_sem, *]) | ((with_reducible refine pick_at hC ?_ ?_ ?_); (· omega); (· first | decide | omega); rintro k6 hk6; try simp -implicitDefEqProofs only [go_sem, *])))
        have hk6' : 0 ≤ k6 ∧ k6 < 5 := hk6
        obtain ⟨m, hm, rfl⟩ : ∃ m : Nat, m < 5 ∧ k6 = (m : Int) := ⟨k6.toNat, by omega, by omega⟩
        refine ⟨(i + 1, m, p2 + 1), ⟨by simp only; omega, hm, by simp only; omega, by simp only; omega⟩, by simp only; omega, ?_⟩
        refine wk_tm ?_; repeat (first | exact WL.nil | (with_reducible refine WL.any _ _ _ ?_) | (with_reducible refine WL.same _ _ _ ?_) | (refine WL.eq _ _ _ _ rfl ?_))
      · by_cases g1 : (i : Int) < 4
        · have g2 : ((at' eb (j : Int)).owner == 0) = false := by
            rw [← Bool.not_eq_true]
            exact fun h => hgo ⟨g1, h⟩
          clear hgo
          simp -implicitDefEqProofs only [go_sem, g1]
          (repeat' (first | ((with_reducible first | refine gon ?_ ?_ | refine gos ?_ ?_ | refine cdn ?_ ?_ | refine cds ?_ ?_ | refine gpn ?_ ?_ | refine gps ?_ ?_) <;> intro h <;> (try simp only [dt, df, gi, gt] at h) <;> try simp -implicitDefEqProofs only [go_sem, *]) | ((with_reducible refine And.intro ?_ ?_); (· first | omega | (simp only [List.length_take]; omega)); try simp -implicitDefEqProofs only [go_sem, *]) | first | ((with_reducible refine pick_at hC ?_ ?_ ?_); (· omega); (· first | decide | omega); rintro k6 hk6; try simp -implicitDefEqProofs only [go_sem, *]) | ((with_reducible refine enter_own (hlk) ?_ rfl rfl ?_); (· repeat (first | exact All2.nil | (refine All2.cons _ _ _ _ ?_ ?_; (· first | exact arg_same rfl | exact arg_eX5 rfl rfl (by first | omega | (simp; omega)) (by first | omega | (simp; omega)) | exact arg_eX rfl rfl (by first | omega | (simp; omega)) (by first | omega | (simp; omega)) | exact .of1 _ _ (.of0 _ _ (arg0_r rfl (by simp))))))); try simp -implicitDefEqProofs only [go_sem, *])))
          all_goals (refine fin_ev0 (e := ⟨ea, eb, ec, es, false⟩) rd_nil hd5 hm5 ?_ ?_ ?_ ?_ <;> first | exact tmod10 _ | omega | (simp; done))
        · clear hgo
          simp -implicitDefEqProofs only [go_sem, g1]
          (repeat' (first | ((with_reducible first | refine gon ?_ ?_ | refine gos ?_ ?_ | refine cdn ?_ ?_ | refine cds ?_ ?_ | refine gpn ?_ ?_ | refine gps ?_ ?_) <;> intro h <;> (try simp only [dt, df, gi, gt] at h) <;> try simp -implicitDefEqProofs only [go_sem, *]) | ((with_reducible refine And.intro ?_ ?_); (· first | omega | (simp only [List.length_take]; omega)); try simp -implicitDefEqProofs only [go_sem, *]) | first | ((with_reducible refine pick_at hC ?_ ?_ ?_); (· omega); (· first | decide | omega); rintro k6 hk6; try simp -implicitDefEqProofs only [go_sem, *]) | ((with_reducible refine enter_own (hlk) ?_ rfl rfl ?_); (· repeat (first | exact All2.nil | (refine All2.cons _ _ _ _ ?_ ?_; (· first | exact arg_same rfl | exact arg_eX5 rfl rfl (by first | omega | (simp; omega)) (by first | omega | (simp; omega)) | exact arg_eX rfl rfl (by first | omega | (simp; omega)) (by first | omega | (simp; omega)) | exact .of1 _ _ (.of0 _ _ (arg0_r rfl (by simp))))))); try simp -implicitDefEqProofs only [go_sem, *])))
          all_goals (refine fin_ev0 (e := ⟨ea, eb, ec, es, false⟩) rd_nil hd5 hm5 ?_ ?_ ?_ ?_ <;> first | exact tmod10 _ | omega | (simp; done))
end
section
attribute [local go_sem] slt_r slt_I slt_p ty_rd ty_ev
theorem ty_evs : tiOf Tryz.prog 105 = some ⟨false, [.slice none 0 0], 24, .slice 120⟩ := by kernel_rfl
attribute [local go_sem] ty_evs
/-- An engine of which all is its own. -/
abbrev eL (i j k : Nat) (e : Eng) : AV := .agg [.own i 3 0 5, .own j 3 0 5, .own k 8 0 e.log.length, I e.safe, Bo e.down]
abbrev oL (l : List Rc) : Option AObj := some ⟨8, l.map rA⟩
@[go_sem] theorem rho22 {a b n : Nat} : rho [a, b] n 2 = n := by simp [rho]
@[go_sem] theorem rho12 {a n : Nat} : rho [a] n 2 = n + 1 := by simp [rho]
@[go_sem] theorem rho13 {a n : Nat} : rho [a] n 3 = n + 2 := by simp [rho]
@[go_sem] theorem rnO_r {ρ : Nat → Nat} {l : List Rc} : rnO ρ (some ⟨8, l.map rA⟩) = some ⟨8, l.map rA⟩ := by
  unfold rnO
  simp only [Option.map_some, List.map_map]
  congr 2
@[go_sem] theorem rn1_any {ρ : Nat → Nat} : AV.rn1 ρ .any = .any := rfl
@[go_sem] theorem putS_nil' {ρ : Nat → Nat} {o : Option AObj} {S T : Store} : putS ρ [] (o :: S) T = T ++ (rnO ρ o :: S.map (rnO ρ)) := by simp [putS]
@[go_sem] theorem scT_two {i j : Nat} {tm : List AV} : scT [i, j] tm = tm.map (AV.sc [i, j]) := rfl
@[go_sem] theorem scS_two {i j : Nat} {S : Store} : scS [i, j] S = S.map (Option.map fun o => ⟨o.z, o.es.map (AV.sc1 [i, j])⟩) := rfl
@[go_sem] theorem sc_ref2 {i j k z o s : Nat} : AV.sc [i, j] (.ref k z o s) = if k = i then .junk else if k = j then .junk else .ref k z o s := by
  by_cases h : k = i <;> by_cases h' : k = j <;> simp [AV.sc, AV.sc1, AV.sc0, h, h']
@[go_sem] theorem sc_own2 {i j k z o s : Nat} : AV.sc [i, j] (.own k z o s) = if k = i then .junk else if k = j then .junk else .own k z o s := by
  by_cases h : k = i <;> by_cases h' : k = j <;> simp [AV.sc, AV.sc1, AV.sc0, h, h']
@[go_sem] theorem sc0_own2 {i j k z o s : Nat} : AV.sc0 [i, j] (.own k z o s) = if k = i then .junk else if k = j then .junk else .own k z o s := by
  by_cases h : k = i <;> by_cases h' : k = j <;> simp [AV.sc0, h, h']
@[go_sem] theorem sc0_ref2 {i j k z o s : Nat} : AV.sc0 [i, j] (.ref k z o s) = if k = i then .junk else if k = j then .junk else .ref k z o s := by
  by_cases h : k = i <;> by_cases h' : k = j <;> simp [AV.sc0, h, h']
@[go_sem] theorem sc1_own2 {i j k z o s : Nat} : AV.sc1 [i, j] (.own k z o s) = if k = i then .junk else if k = j then .junk else .own k z o s := by
  by_cases h : k = i <;> by_cases h' : k = j <;> simp [AV.sc1, AV.sc0, h, h']
@[go_sem] theorem sc1_ev {mv : List Nat} {l : List Ev} : (l.map evA).map (AV.sc1 mv) = l.map evA := by rw [List.map_map]; rfl
@[go_sem] theorem pur_ev {i : Nat} {l : List Ev} : (l.map evA).all (AV.pur i) = true := by simp [AV.pur, AV.nm0, AV.pur0]
@[go_sem] theorem pur_ev1 {i : Nat} {a b c d n : Int} {v : List Int} : AV.pur i (.agg [I a, I b, I c, I d, I n, ints v]) = true := rfl
@[go_sem] theorem app_ev {l : List Ev} {a b c d n : Int} {v : List Int} : l.map evA ++ [.agg [I a, I b, I c, I d, I n, ints v]] = (l ++ [(⟨a, b, c, d, n, v⟩ : Ev)]).map evA := by simp
theorem slt_ev {n : Nat} {l : List Ev} : ((l.map evA).all fun x => x.cells.all (AV.lt1 n)) = true := by simp [AV.cells, AV.lt1, AV.lt0]
theorem a2_r (K : List Nat) (l : List Rc) : All2 (Rn1 K) (l.map rA) (l.map rA) := by
  induction l with
  | nil => exact .nil
  | cons x l ih => exact .cons _ _ _ _ (.agg _ _ (a2_same rfl)) ih
theorem rnT_eL {K : List Nat} {a b c i j k n : Nat} {s : Int} {d : Bool} (h0 : K[a]? = some i) (h1 : K[b]? = some j) (h2 : K[c]? = some k) : RnT K (.agg [.own i 3 0 5, .own j 3 0 5, .own k 8 0 n, I s, Bo d]) (.agg [.own a 3 0 5, .own b 3 0 5, .own c 8 0 n, I s, Bo d]) :=
  .of _ _ (.agg _ _ (.cons _ _ _ _ (.own _ _ _ _ _ h0) (.cons _ _ _ _ (.own _ _ _ _ _ h1) (.cons _ _ _ _ (.own _ _ _ _ _ h2) (.cons _ _ _ _ (.same _ rfl) (.cons _ _ _ _ (.same _ rfl) .nil))))))
theorem hm01 {n : Nat} {K : List Nat} {mv : List Nat} (hn : n = 2) : ∀ i, i < n → [0, 1].contains i = false → K[i]? = some i ∧ mv.contains i = false := by
  subst hn
  intro i hi h
  have hi2 : i = 0 ∨ i = 1 := by omega
  rcases hi2 with rfl | rfl <;> cases h
theorem l11Copy_o (e : Eng) (hi : Inv e) : AFn1 Tryz.prog 24 [eX 0 1 e] (sO e) (eL 0 1 2 e) [oP e.disk, oP e.mem, oL e.log] [0, 1] := by
  have hd5 := hi.disk.len
  have hm5 := hi.mem.len
  have hlen := hi.len
  have hc1 := CopyPages_c e.disk hi.disk.sz
  have hc2 := CopyPages_c e.mem hi.mem.sz
  refine afn1_of Tryz.func24 rfl rfl ?_
  simp -implicitDefEqProofs only [go_sem, Tryz.f24]
  refine cp_drawG (id := 1) 16 (fun S => getO S 2 = some ⟨5, [eX 0 1 e]⟩) mixed rfl ?_
  ((refine expG_get 0 (.ref 2 5 0 0) rfl ?_ ?_ ?_ ?_ ?_); (· decide +kernel); (· decide +kernel); (· rfl); (· (intro S hS0; simp -implicitDefEqProofs only [go_sem, hS0, *])); try simp -implicitDefEqProofs only [go_sem, List.set_cons_succ, List.set_cons_zero])
  ((refine expG_get 1 (.own 0 3 0 5) rfl ?_ ?_ ?_ ?_ ?_); (· decide +kernel); (· decide +kernel); (· rfl); (· (intro S hS0; simp -implicitDefEqProofs only [go_sem, hS0, *])); try simp -implicitDefEqProofs only [go_sem, List.set_cons_succ, List.set_cons_zero])
  ((refine expG_get 3 (.ref 2 5 0 1) rfl ?_ ?_ ?_ ?_ ?_); (· decide +kernel); (· decide +kernel); (· rfl); (· (intro S hS0; simp -implicitDefEqProofs only [go_sem, hS0, *])); try simp -implicitDefEqProofs only [go_sem, List.set_cons_succ, List.set_cons_zero])
  ((refine expG_get 4 (.own 1 3 0 5) rfl ?_ ?_ ?_ ?_ ?_); (· decide +kernel); (· decide +kernel); (· rfl); (· (intro S hS0; simp -implicitDefEqProofs only [go_sem, hS0, *])); try simp -implicitDefEqProofs only [go_sem, List.set_cons_succ, List.set_cons_zero])
  ((refine expG_get 7 (.ref 2 5 0 2) rfl ?_ ?_ ?_ ?_ ?_); (· decide +kernel); (· decide +kernel); (· rfl); (· (intro S hS0; simp -implicitDefEqProofs only [go_sem, hS0, *])); try simp -implicitDefEqProofs only [go_sem, List.set_cons_succ, List.set_cons_zero])
  ((refine expG_get 8 (recs e.log) rfl ?_ ?_ ?_ ?_ ?_); (· decide +kernel); (· decide +kernel); (· rfl); (· (intro S hS0; simp -implicitDefEqProofs only [go_sem, hS0, *])); try simp -implicitDefEqProofs only [go_sem, List.set_cons_succ, List.set_cons_zero])
  ((refine expG_get 10 (.ref 2 5 0 3) rfl ?_ ?_ ?_ ?_ ?_); (· decide +kernel); (· decide +kernel); (· rfl); (· (intro S hS0; simp -implicitDefEqProofs only [go_sem, hS0, *])); try simp -implicitDefEqProofs only [go_sem, List.set_cons_succ, List.set_cons_zero])
  ((refine expG_get 11 (I e.safe) rfl ?_ ?_ ?_ ?_ ?_); (· decide +kernel); (· decide +kernel); (· rfl); (· (intro S hS0; simp -implicitDefEqProofs only [go_sem, hS0, *])); try simp -implicitDefEqProofs only [go_sem, List.set_cons_succ, List.set_cons_zero])
  ((refine expG_get 12 (.ref 2 5 0 4) rfl ?_ ?_ ?_ ?_ ?_); (· decide +kernel); (· decide +kernel); (· rfl); (· (intro S hS0; simp -implicitDefEqProofs only [go_sem, hS0, *])); try simp -implicitDefEqProofs only [go_sem, List.set_cons_succ, List.set_cons_zero])
  ((refine expG_get 13 (Bo e.down) rfl ?_ ?_ ?_ ?_ ?_); (· decide +kernel); (· decide +kernel); (· rfl); (· (intro S hS0; simp -implicitDefEqProofs only [go_sem, hS0, *])); try simp -implicitDefEqProofs only [go_sem, List.set_cons_succ, List.set_cons_zero])
  ((with_reducible refine expG_two 2 6 ?_ ?_ ?_); (· decide +kernel); all_goals (try simp -implicitDefEqProofs only [go_sem, *]))
  · ((with_reducible refine enter_at1 [0] (M2 := []) (hc1) (by decide) ?_ ?_ rfl ?_); (· repeat (first | exact Keeps.nil | (refine Keeps.cons _ _ _ _ _ rfl rfl ?_ ?_; (· first | exact a2_p _ _ | exact a2_1 rfl | exact a2_I _ _)))); (· repeat (first | exact All2.nil | (refine All2.cons _ _ _ _ ?_ ?_; (· first | exact rnT_eX rfl rfl | exact rnT_prim | exact rnT_sl | exact rnT_ref rfl | exact rnT_agg rfl | exact rnT_own rfl | exact rnT_eX5 rfl rfl)))); try simp -implicitDefEqProofs only [go_sem, *])
    ((with_reducible refine expG_two 5 6 ?_ ?_ ?_); (· decide +kernel); all_goals (try simp -implicitDefEqProofs only [go_sem, *]))
    · ((with_reducible refine enter_at1 [1] (M2 := []) (hc2) (by decide) ?_ ?_ rfl ?_); (· repeat (first | exact Keeps.nil | (refine Keeps.cons _ _ _ _ _ rfl rfl ?_ ?_; (· first | exact a2_p _ _ | exact a2_1 rfl | exact a2_I _ _)))); (· repeat (first | exact All2.nil | (refine All2.cons _ _ _ _ ?_ ?_; (· first | exact rnT_eX rfl rfl | exact rnT_prim | exact rnT_sl | exact rnT_ref rfl | exact rnT_agg rfl | exact rnT_own rfl | exact rnT_eX5 rfl rfl)))); try simp -implicitDefEqProofs only [go_sem, *])
      ((with_reducible refine expG_one 6 ?_ ?_); (· decide +kernel); try simp -implicitDefEqProofs only [go_sem, *])
      (repeat' (first | ((with_reducible first | refine gon ?_ ?_ | refine gos ?_ ?_ | refine cdn ?_ ?_ | refine cds ?_ ?_ | refine gpn ?_ ?_ | refine gps ?_ ?_) <;> intro h <;> (try simp only [dt, df, gi, gt] at h) <;> try simp -implicitDefEqProofs only [go_sem, *]) | ((with_reducible refine And.intro ?_ ?_); (· first | omega | (simp only [List.length_take]; omega)); try simp -implicitDefEqProofs only [go_sem, *]) | first | ((refine expG_new 9 rfl ?_ ?_); (· decide +kernel); simp -implicitDefEqProofs only [go_sem, *]) | ((with_reducible refine expG_one 14 ?_ ?_); (· decide +kernel); try simp -implicitDefEqProofs only [go_sem, *]) | ((with_reducible refine expG_one 15 ?_ ?_); (· decide +kernel); try simp -implicitDefEqProofs only [go_sem, *]) | ((with_reducible refine expG_end ?_ ?_); (· decide +kernel); try simp -implicitDefEqProofs only [go_sem, *])))
      exact fin_move [4, 5, 7] [0, 1] (by simp) rfl (by decide) (keep3 (o3 := ⟨8, e.log.map rA⟩) rfl rfl rfl (a2_p _ _) (a2_p _ _) (a2_r _ _)) (hm01 rfl) (rnT_eL rfl rfl rfl) ⟨rfl, rfl, rfl⟩
    · ((with_reducible refine expG_one 5 ?_ ?_); (· decide +kernel); try simp -implicitDefEqProofs only [go_sem, *])
      ((with_reducible refine enter_at1 [1] (M2 := []) (hc2) (by decide) ?_ ?_ rfl ?_); (· repeat (first | exact Keeps.nil | (refine Keeps.cons _ _ _ _ _ rfl rfl ?_ ?_; (· first | exact a2_p _ _ | exact a2_1 rfl | exact a2_I _ _)))); (· repeat (first | exact All2.nil | (refine All2.cons _ _ _ _ ?_ ?_; (· first | exact rnT_eX rfl rfl | exact rnT_prim | exact rnT_sl | exact rnT_ref rfl | exact rnT_agg rfl | exact rnT_own rfl | exact rnT_eX5 rfl rfl)))); try simp -implicitDefEqProofs only [go_sem, *])
      (repeat' (first | ((with_reducible first | refine gon ?_ ?_ | refine gos ?_ ?_ | refine cdn ?_ ?_ | refine cds ?_ ?_ | refine gpn ?_ ?_ | refine gps ?_ ?_) <;> intro h <;> (try simp only [dt, df, gi, gt] at h) <;> try simp -implicitDefEqProofs only [go_sem, *]) | ((with_reducible refine And.intro ?_ ?_); (· first | omega | (simp only [List.length_take]; omega)); try simp -implicitDefEqProofs only [go_sem, *]) | first | ((refine expG_new 9 rfl ?_ ?_); (· decide +kernel); simp -implicitDefEqProofs only [go_sem, *]) | ((with_reducible refine expG_one 14 ?_ ?_); (· decide +kernel); try simp -implicitDefEqProofs only [go_sem, *]) | ((with_reducible refine expG_one 15 ?_ ?_); (· decide +kernel); try simp -implicitDefEqProofs only [go_sem, *]) | ((with_reducible refine expG_end ?_ ?_); (· decide +kernel); try simp -implicitDefEqProofs only [go_sem, *])))
      exact fin_move [4, 6, 7] [0, 1] (by simp) rfl (by decide) (keep3 (o3 := ⟨8, e.log.map rA⟩) rfl rfl rfl (a2_p _ _) (a2_p _ _) (a2_r _ _)) (hm01 rfl) (rnT_eL rfl rfl rfl) ⟨rfl, rfl, rfl⟩
  · ((with_reducible refine expG_one 2 ?_ ?_); (· decide +kernel); try simp -implicitDefEqProofs only [go_sem, *])
    ((with_reducible refine enter_at1 [0] (M2 := []) (hc1) (by decide) ?_ ?_ rfl ?_); (· repeat (first | exact Keeps.nil | (refine Keeps.cons _ _ _ _ _ rfl rfl ?_ ?_; (· first | exact a2_p _ _ | exact a2_1 rfl | exact a2_I _ _)))); (· repeat (first | exact All2.nil | (refine All2.cons _ _ _ _ ?_ ?_; (· first | exact rnT_eX rfl rfl | exact rnT_prim | exact rnT_sl | exact rnT_ref rfl | exact rnT_agg rfl | exact rnT_own rfl | exact rnT_eX5 rfl rfl)))); try simp -implicitDefEqProofs only [go_sem, *])
    ((with_reducible refine expG_one 5 ?_ ?_); (· decide +kernel); try simp -implicitDefEqProofs only [go_sem, *])
    ((with_reducible refine enter_at1 [1] (M2 := []) (hc2) (by decide) ?_ ?_ rfl ?_); (· repeat (first | exact Keeps.nil | (refine Keeps.cons _ _ _ _ _ rfl rfl ?_ ?_; (· first | exact a2_p _ _ | exact a2_1 rfl | exact a2_I _ _)))); (· repeat (first | exact All2.nil | (refine All2.cons _ _ _ _ ?_ ?_; (· first | exact rnT_eX rfl rfl | exact rnT_prim | exact rnT_sl | exact rnT_ref rfl | exact rnT_agg rfl | exact rnT_own rfl | exact rnT_eX5 rfl rfl)))); try simp -implicitDefEqProofs only [go_sem, *])
    (repeat' (first | ((with_reducible first | refine gon ?_ ?_ | refine gos ?_ ?_ | refine cdn ?_ ?_ | refine cds ?_ ?_ | refine gpn ?_ ?_ | refine gps ?_ ?_) <;> intro h <;> (try simp only [dt, df, gi, gt] at h) <;> try simp -implicitDefEqProofs only [go_sem, *]) | ((with_reducible refine And.intro ?_ ?_); (· first | omega | (simp only [List.length_take]; omega)); try simp -implicitDefEqProofs only [go_sem, *]) | first | ((refine expG_new 9 rfl ?_ ?_); (· decide +kernel); simp -implicitDefEqProofs only [go_sem, *]) | ((with_reducible refine expG_one 14 ?_ ?_); (· decide +kernel); try simp -implicitDefEqProofs only [go_sem, *]) | ((with_reducible refine expG_one 15 ?_ ?_); (· decide +kernel); try simp -implicitDefEqProofs only [go_sem, *]) | ((with_reducible refine expG_end ?_ ?_); (· decide +kernel); try simp -implicitDefEqProofs only [go_sem, *])))
    exact fin_move [5, 6, 7] [0, 1] (by simp) rfl (by decide) (keep3 (o3 := ⟨8, e.log.map rA⟩) rfl rfl rfl (a2_p _ _) (a2_p _ _) (a2_r _ _)) (hm01 rfl) (rnT_eL rfl rfl rfl) ⟨rfl, rfl, rfl⟩
theorem l11Pages_own : Fn Tryz.prog 133 [] (fun r S => r = .own 0 3 0 5 ∧ S = [oP newPs]) := by
  refine fn_of Tryz.func133 rfl rfl ?_
  simp -implicitDefEqProofs only [go_sem, Tryz.f133]
  refine cp_loop (fun i : Nat => ⟨(nilS :: .own 0 3 0 i :: I (i : Int) :: .any :: .any :: .any :: .any :: .any :: .any :: .any :: .any :: .any :: .any :: []), [some ⟨3, (newPs.take i).map pA⟩], [0]⟩) (fun i => i ≤ 5) (fun i => 5 - i) 0 ?_ ?_ ?_
  · simp
  · refine WkN.trans (wk_tm ?_) (wk_mv (by simp))
    repeat (first | exact WL.nil | (with_reducible refine WL.any _ _ _ ?_) | (with_reducible refine WL.same _ _ _ ?_) | (refine WL.eq _ _ _ _ rfl ?_))
  · rintro i hi
    have hb' : i < 4611686018427387904 := by omega
    by_cases hil : i < 5
    · have hl1 : (i : Int) < 5 := by omega
      simp -implicitDefEqProofs only [go_sem, hl1]
      (repeat' (first | ((with_reducible first | refine gon ?_ ?_ | refine gos ?_ ?_ | refine cdn ?_ ?_ | refine cds ?_ ?_ | refine gpn ?_ ?_ | refine gps ?_ ?_) <;> intro h <;> (try simp only [dt, df, gi, gt] at h) <;> try simp -implicitDefEqProofs only [go_sem, *]) | ((with_reducible refine And.intro ?_ ?_); (· first | omega | (simp only [List.length_take]; omega)); try simp -implicitDefEqProofs only [go_sem, *]) | ((with_reducible refine enter_pu (PageNew_fn) ?_ ?_ ?_); (· rfl); (· rfl); try simp -implicitDefEqProofs only [go_sem, *])))
      have e : List.take i newPs ++ [newP] = List.take (i + 1) newPs := by
        have := take_at newPs i (by simpa [newPs] using hil)
        rw [at_newPs hil] at this
        exact this
      refine ⟨⟨by simp [newPs]; omega, by omega⟩, ?_⟩
      rw [e]
      refine ⟨i + 1, by omega, by omega, ?_⟩
      refine WkN.trans (WkN.trans (wk_tm ?_) (wk_trunc (S := [some ⟨3, (newPs.take (i + 1)).map pA⟩]) (Nat.le_refl _) rfl (by first | rfl | (simp only [sltB, List.all_cons, List.all_nil, slt_p, slt_I, slt_r, Bool.and_true]; done) | (simp only [sltB, List.all_cons, List.all_nil, slt_p, slt_I, slt_r, Bool.and_true]; rfl)))) (wk_mv (by simp)); repeat (first | exact WL.nil | (with_reducible refine WL.any _ _ _ ?_) | (with_reducible refine WL.same _ _ _ ?_) | (refine WL.eq _ _ _ _ rfl ?_))
    · have hl1 : ¬ (i : Int) < 5 := by omega
      have e : i = 5 := by omega
      simp -implicitDefEqProofs only [go_sem, hl1]
      subst e
      exact fin_keep [0] (by simp) rfl (keep1 rfl (a2_p _ _)) (rt_own _ rfl) ⟨rfl, rfl⟩
theorem EngineNew_own : Fn Tryz.prog 125 [] (fun r S => r = eX 0 1 newE ∧ S = sO newE) := by
  refine fn_of Tryz.func125 rfl rfl ?_
  simp -implicitDefEqProofs only [go_sem, Tryz.f125]
  (repeat' (first | ((with_reducible first | refine gon ?_ ?_ | refine gos ?_ ?_ | refine cdn ?_ ?_ | refine cds ?_ ?_ | refine gpn ?_ ?_ | refine gps ?_ ?_) <;> intro h <;> (try simp only [dt, df, gi, gt] at h) <;> try simp -implicitDefEqProofs only [go_sem, *]) | ((with_reducible refine And.intro ?_ ?_); (· first | omega | (simp only [List.length_take]; omega)); try simp -implicitDefEqProofs only [go_sem, *]) | ((with_reducible refine enter_fn (l11Pages_own) ?_ ?_); (· rfl); try simp -implicitDefEqProofs only [go_sem, *])))
  exact fin_drop [1, 2] [] (by simp) rfl (by decide) (keep2 (o1 := ⟨3, newPs.map pA⟩) (o2 := ⟨3, newPs.map pA⟩) rfl rfl (a2_p _ _) (a2_p _ _)) (fun i hi => absurd hi (Nat.not_lt_zero _)) (.of _ _ (rd_eX (k := 3) (e := newE) rfl rfl (by decide) (by decide) rfl rfl)) ⟨⟨rfl, rfl⟩, rfl⟩
theorem keep4 {a b c d : Nat} {S : Store} {o1 o2 o3 o4 : AObj} (h1 : getO S a = some o1) (h2 : getO S b = some o2) (h3 : getO S c = some o3) (h4 : getO S d = some o4) (e1 : All2 (Rn1 [a, b, c, d]) o1.es o1.es) (e2 : All2 (Rn1 [a, b, c, d]) o2.es o2.es) (e3 : All2 (Rn1 [a, b, c, d]) o3.es o3.es) (e4 : All2 (Rn1 [a, b, c, d]) o4.es o4.es) :
    ∀ (j k : Nat), [a, b, c, d][j]? = some k → ∃ (o o' : AObj), getO S k = some o ∧ [some o1, some o2, some o3, some o4][j]? = some (some o') ∧ o'.z = o.z ∧ All2 (Rn1 [a, b, c, d]) o.es o'.es := by
  intro j k hj
  rcases j with _ | _ | _ | _ | j
  · simp at hj; subst hj; exact ⟨o1, o1, h1, rfl, rfl, e1⟩
  · simp at hj; subst hj; exact ⟨o2, o2, h2, rfl, rfl, e2⟩
  · simp at hj; subst hj; exact ⟨o3, o3, h3, rfl, rfl, e3⟩
  · simp at hj; subst hj; exact ⟨o4, o4, h4, rfl, rfl, e4⟩
  · simp at hj
theorem hdR {K : List Nat} {S : Store} {mv : List Nat} {o : AObj} (h : getO S 0 = some o) (hn : o.es ≠ []) (m0 : mv.contains 0 = false) (hK : K[0]? = some 0) : ∀ i, i < 1 → mv.contains i = false ∧ (∃ o, getO S i = some o ∧ o.es ≠ []) ∧ (([] : List Nat).contains i = false → K[i]? = some i) := by
  intro i hi
  obtain rfl : i = 0 := by omega
  exact ⟨m0, ⟨_, h, hn⟩, fun _ => hK⟩
theorem rd_eL {K : List Nat} {S : Store} {n0 a b c i j k n : Nat} {s : Int} {d : Bool} (h0 : K[a]? = some i) (h1 : K[b]? = some j) (h2 : K[c]? = some k) : Rd1 K S n0 (.agg [.own i 3 0 5, .own j 3 0 5, .own k 8 0 n, I s, Bo d]) (.agg [.own a 3 0 5, .own b 3 0 5, .own c 8 0 n, I s, Bo d]) :=
  .agg _ _ (.cons _ _ _ _ (.rn _ _ (.own _ _ _ _ _ h0)) (.cons _ _ _ _ (.rn _ _ (.own _ _ _ _ _ h1)) (.cons _ _ _ _ (.rn _ _ (.own _ _ _ _ _ h2)) (.cons _ _ _ _ (.rn _ _ (.same _ rfl)) (.cons _ _ _ _ (.rn _ _ (.same _ rfl)) .nil)))))
theorem l71Play_c (l : List Int) (p : Nat) (hC : Cod l) (hp : p < 800000) : AFnX Tryz.prog 106 [.ref 0 2 0 0] [oR l p] (fun q : Eng × Nat => PInv q.1 ∧ p ≤ q.2 ∧ q.2 ≤ p + 800) (fun q => .tup [.any, eL 1 2 3 q.1]) (fun q => [oR l q.2, oP q.1.disk, oP q.1.mem, oL q.1.log]) [] := by
  refine afnx_of Tryz.func106 rfl rfl ?_
  simp -implicitDefEqProofs only [go_sem, Tryz.f106]
  (repeat' (first | ((with_reducible first | refine gon ?_ ?_ | refine gos ?_ ?_ | refine cdn ?_ ?_ | refine cds ?_ ?_ | refine gpn ?_ ?_ | refine gps ?_ ?_) <;> intro h <;> (try simp only [dt, df, gi, gt] at h) <;> try simp -implicitDefEqProofs only [go_sem, *]) | ((with_reducible refine And.intro ?_ ?_); (· first | omega | (simp only [List.length_take]; omega)); try simp -implicitDefEqProofs only [go_sem, *]) | first | ((with_reducible refine enter_fn (EngineNew_own) ?_ ?_); (· rfl); try simp -implicitDefEqProofs only [go_sem, *]) | ((with_reducible refine pick_at hC ?_ ?_ ?_); (· omega); (· first | decide | omega); rintro k hk; try simp -implicitDefEqProofs only [go_sem, *])))
  have hk' : 0 ≤ k ∧ k < 37 := hk
  obtain ⟨m0, hm0, rfl⟩ : ∃ m0 : Nat, m0 ≤ 36 ∧ k = (m0 : Int) := ⟨k.toNat, by omega, by omega⟩
  refine cp_loop (fun q : Nat × Eng × Nat × List Ev => ⟨(.ref 0 2 0 0 :: .any :: nilS :: .ref 1 5 0 0 :: .ref 4 5 0 0 :: .own 5 6 0 q.2.2.2.length :: I (q.1 : Int) :: .any :: .any :: .any :: .any :: .any :: .any :: .any :: .any :: .any :: .any :: .any :: .any :: .any :: .any :: .any :: .any :: .any :: .any :: .any :: .any :: .any :: .any :: []), [oR l q.2.2.1, some ⟨5, [.agg [.prim (.slice none 0 0), .prim (.slice none 0 0), .prim (.slice none 0 0), I 0, Bo false]]⟩, oP q.2.1.disk, oP q.2.1.mem, some ⟨5, [eX 2 3 q.2.1]⟩, some ⟨6, q.2.2.2.map evA⟩], [5, 3]⟩)
    (fun q => q.1 ≤ 36 ∧ PInv q.2.1 ∧ p ≤ q.2.2.1 ∧ q.2.2.1 + 20 * q.1 ≤ p + 730 ∧ q.2.2.2.length + q.1 ≤ 36) (fun q => q.1) (m0, newE, p + 1, []) ?_ ?_ ?_
  · exact ⟨hm0, newE_inv, by simp only; omega, by simp only; omega, by simp only [List.length_nil]; omega⟩
  · refine WkN.trans (wk_tm ?_) (wk_mv (by simp))
    repeat (first | exact WL.nil | (with_reducible refine WL.any _ _ _ ?_) | (with_reducible refine WL.same _ _ _ ?_) | (refine WL.eq _ _ _ _ rfl ?_))
  · rintro ⟨m, c, p', vs⟩ ⟨hm, hic, hp1, hp2, hvl⟩
    simp only at hm hic hp1 hp2 hvl
    have hi := hic.toInv
    have hcd := hi.disk.len
    have hcm := hi.mem.len
    have hcl := hi.len
    rcases m with _ | m
    · have hcp := l11Copy_o c hi
      simp -implicitDefEqProofs only [go_sem, true_and]
      (repeat' (first | ((with_reducible first | refine gon ?_ ?_ | refine gos ?_ ?_ | refine cdn ?_ ?_ | refine cds ?_ ?_ | refine gpn ?_ ?_ | refine gps ?_ ?_) <;> intro h <;> (try simp only [dt, df, gi, gt] at h) <;> try simp -implicitDefEqProofs only [go_sem, *]) | ((with_reducible refine And.intro ?_ ?_); (· first | omega | (simp only [List.length_take]; omega)); try simp -implicitDefEqProofs only [go_sem, *]) | ((with_reducible refine enter_at1 [2, 3] (M2 := [2, 3]) (hcp) (by decide) ?_ ?_ rfl ?_); (· repeat (first | exact Keeps.nil | (refine Keeps.cons _ _ _ _ _ rfl rfl ?_ ?_; (· first | exact a2_p _ _ | exact a2_1 rfl | exact a2_I _ _)))); (· repeat (first | exact All2.nil | (refine All2.cons _ _ _ _ ?_ ?_; (· first | exact rnT_eX rfl rfl | exact rnT_prim | exact rnT_sl | exact rnT_ref rfl | exact rnT_agg rfl | exact rnT_own rfl | exact rnT_eX5 rfl rfl)))); try simp -implicitDefEqProofs only [go_sem, *])))
      exact fin_drop [0, 2, 3, 6] [] (by simp) rfl (by decide) (keep4 (o1 := ⟨2, [.agg [bts l, I (p' : Int)]]⟩) (o2 := ⟨3, c.disk.map pA⟩) (o3 := ⟨3, c.mem.map pA⟩) (o4 := ⟨8, c.log.map rA⟩) rfl rfl rfl rfl (a2_1 rfl) (a2_p _ _) (a2_p _ _) (a2_r _ _)) (hdR (o := ⟨2, [.agg [bts l, I (p' : Int)]]⟩) rfl (by simp) rfl rfl)
        (.tup _ _ (.cons _ _ _ _ (.any _) (.cons _ _ _ _ (rd_eL (a := 1) (b := 2) (c := 3) rfl rfl rfl) .nil))) ⟨(c, p'), ⟨hic, hp1, by simp only; omega⟩, rfl, rfl, rfl⟩
    · have hmb : m < 4611686018427387904 := by omega
      simp -implicitDefEqProofs only [go_sem, true_and]
      (repeat' (first | ((with_reducible first | refine gon ?_ ?_ | refine gos ?_ ?_ | refine cdn ?_ ?_ | refine cds ?_ ?_ | refine gpn ?_ ?_ | refine gps ?_ ?_) <;> intro h <;> (try simp only [dt, df, gi, gt] at h) <;> try simp -implicitDefEqProofs only [go_sem, *]) | ((with_reducible refine And.intro ?_ ?_); (· first | omega | (simp only [List.length_take]; omega)); try simp -implicitDefEqProofs only [go_sem, *]) | ((with_reducible refine enter_at [0, 2, 3] (M2 := []) (l71Event_c l p' c hC (by omega) hi) (by decide) ?_ ?_ rfl ?_); (· repeat (first | exact Keeps.nil | (refine Keeps.cons _ _ _ _ _ rfl rfl ?_ ?_; (· first | exact a2_p _ _ | exact a2_1 rfl | exact a2_I _ _)))); (· repeat (first | exact All2.nil | (refine All2.cons _ _ _ _ ?_ ?_; (· first | exact rnT_eX rfl rfl | exact rnT_prim | exact rnT_sl | exact rnT_ref rfl | exact rnT_agg rfl | exact rnT_own rfl | exact rnT_eX5 rfl rfl)))); rintro ⟨v, p2⟩ ⟨hv, h1, h2⟩; try simp -implicitDefEqProofs only [go_sem, *])))
      simp only at hv h1 h2
      have hdo := l22Do_c c v hi hv
      (repeat' (first | ((with_reducible first | refine gon ?_ ?_ | refine gos ?_ ?_ | refine cdn ?_ ?_ | refine cds ?_ ?_ | refine gpn ?_ ?_ | refine gps ?_ ?_) <;> intro h <;> (try simp only [dt, df, gi, gt] at h) <;> try simp -implicitDefEqProofs only [go_sem, *]) | ((with_reducible refine And.intro ?_ ?_); (· first | omega | (simp only [List.length_take]; omega)); try simp -implicitDefEqProofs only [go_sem, *]) | ((with_reducible refine enter_at1 [2, 3] (M2 := [3]) (hdo) (by decide) ?_ ?_ rfl ?_); (· repeat (first | exact Keeps.nil | (refine Keeps.cons _ _ _ _ _ rfl rfl ?_ ?_; (· first | exact a2_p _ _ | exact a2_1 rfl | exact a2_I _ _)))); (· repeat (first | exact All2.nil | (refine All2.cons _ _ _ _ ?_ ?_; (· first | exact rnT_eX rfl rfl | exact rnT_prim | exact rnT_sl | exact rnT_ref rfl | exact rnT_agg rfl | exact rnT_own rfl | exact rnT_eX5 rfl rfl)))); try simp -implicitDefEqProofs only [go_sem, *])))
      refine ⟨(m, c.evDo v, p2, vs ++ [v]), ⟨by simp only; omega, evDo_inv hic v, by simp only; omega, by simp only; omega, by simp only [List.length_append, List.length_singleton]; omega⟩, by simp only; omega, ?_⟩
      simp only [List.length_append, List.length_singleton]
      refine WkN.trans (WkN.trans (wk_tm ?_) (wk_trunc (S := [oR l p2, some ⟨5, [.agg [.prim (.slice none 0 0), .prim (.slice none 0 0), .prim (.slice none 0 0), I 0, Bo false]]⟩, oP (c.evDo v).disk, oP (c.evDo v).mem, some ⟨5, [eX 2 3 (c.evDo v)]⟩, some ⟨6, (vs ++ [v]).map evA⟩]) (Nat.le_refl _) rfl ?_)) (wk_mv (by simp))
      rotate_left
      · simp only [sltB, List.all_cons, List.all_nil, slt_p, slt_ev, Bool.and_true]
        rfl
      repeat (first | exact WL.nil | (with_reducible refine WL.any _ _ _ ?_) | (with_reducible refine WL.same _ _ _ ?_) | (refine WL.eq _ _ _ _ rfl ?_))
end
section
attribute [local go_sem] slt_r slt_I slt_p ty_rd ty_ev ty_evs
@[go_sem] theorem buildO_2 {tm : List AV} {b : Bool} {z0 z1 : Value} {n : Nat} {parts : List (Nat × Operand)} : buildO tm (some ⟨b, [z0, z1], n, .struct [0, 1]⟩) parts = fillV (fillR [0, 1] tm [.prim z0, .prim z1] parts) := rfl
theorem at_reader {f : FuncId} {l : List Int} {p : Nat} {X : Type} {J : X → Prop} {R : X → AV} {pos : X → Nat} {d : Tmp} {tm : List AV} {T : Store} {mv : List Nat} {K : St → Prop} (h : AFnX Tryz.prog f [.ref 0 2 0 0] [oR l p] J R (fun q => [oR l (pos q)]) [])
    (hR : ∀ q ρ, (R q).rn ρ = R q) (hk : ∀ q, J q → K ⟨tm.set d (R q), oR l (pos q) :: T, mv⟩) : afterR Tryz.prog (.enter f [.ref 0 2 0 0]) (some d) ⟨tm, oR l p :: T, mv⟩ K := by
  refine enter_at [0] (M2 := []) h (by decide) (.cons _ _ _ _ _ rfl rfl (a2_1 rfl) .nil) (.cons _ _ _ _ (rnT_ref rfl) .nil) rfl fun q hq => ?_
  have := hk q hq
  rw [hR]
  simpa only [scT_nil, scS_nil, putS_cons, putS_nil, List.set_cons_zero, rnO_agg, rn0_sl, rn0_prim, List.map_cons, List.map_nil, List.nil_append] using this
theorem fin_log {l : List Int} {lg : List Rc} {p p' off len : Nat} {T : Store} {mv : List Nat} (ho : getO (oR l p' :: T) 3 = some ⟨8, lg.map rA⟩) (hl : off + len ≤ lg.length) (hg : lg.length ≤ 151) (m0 : mv.contains 0 = false) (h1 : p ≤ p') (h2 : p' ≤ p + 850) :
    Fin 1 (.own 3 8 off len) (oR l p' :: T) mv (fun r S' mv => ∃ x : List Rc × Nat, (x.1.length ≤ 151 ∧ p ≤ x.2 ∧ x.2 ≤ p + 850) ∧ r = recs x.1 ∧ S' = [oR l x.2] ∧ mv = []) :=
  fin_drop [0] [] (by simp) rfl (by decide) (keep1 (ob := ⟨2, [.agg [bts l, I (p' : Int)]]⟩) rfl (a2_1 rfl)) (hdR (o := ⟨2, [.agg [bts l, I (p' : Int)]]⟩) rfl (by simp) m0 rfl)
    (.of _ _ (.of _ _ (.drop 3 8 off len _ ((lg.drop off).take len |>.map rD) (by decide) (by decide) ho rfl (by simpa using hl) (by simp only [← List.map_drop, ← List.map_take]; exact isDs_r _)))) ⟨((lg.drop off).take len, p'), ⟨by simp; omega, h1, h2⟩, rfl, rfl, rfl⟩
theorem l71Log_c (l : List Int) (p : Nat) (hC : Cod l) (hp : p < 700000) : AFnX Tryz.prog 108 [.ref 0 2 0 0] [oR l p] (fun q : List Rc × Nat => q.1.length ≤ 151 ∧ p ≤ q.2 ∧ q.2 ≤ p + 850) (fun q => recs q.1) (fun q => [oR l q.2]) [] := by
  refine afnx_of Tryz.func108 rfl rfl ?_
  simp -implicitDefEqProofs only [go_sem, Tryz.f108]
  (repeat' (first | ((with_reducible first | refine gon ?_ ?_ | refine gos ?_ ?_ | refine cdn ?_ ?_ | refine cds ?_ ?_ | refine gpn ?_ ?_ | refine gps ?_ ?_) <;> intro h <;> (try simp only [dt, df, gi, gt] at h) <;> try simp -implicitDefEqProofs only [go_sem, *]) | ((with_reducible refine And.intro ?_ ?_); (· first | omega | (simp only [List.length_take]; omega)); try simp -implicitDefEqProofs only [go_sem, *]) | ((with_reducible refine enter_at [0] (M2 := []) (l71Play_c l p hC (by omega)) (by decide) ?_ ?_ rfl ?_); (· repeat (first | exact Keeps.nil | (refine Keeps.cons _ _ _ _ _ rfl rfl ?_ ?_; (· first | exact a2_p _ _ | exact a2_1 rfl | exact a2_I _ _)))); (· repeat (first | exact All2.nil | (refine All2.cons _ _ _ _ ?_ ?_; (· first | exact rnT_eX rfl rfl | exact rnT_prim | exact rnT_sl | exact rnT_ref rfl | exact rnT_agg rfl | exact rnT_own rfl | exact rnT_eX5 rfl rfl)))); rintro ⟨c, p1⟩ ⟨hic, hp1, hp2⟩; try simp -implicitDefEqProofs only [go_sem, *])))
  simp only at hic hp1 hp2
  have hcl := hic.toInv.len
  (repeat' (first | ((with_reducible first | refine gon ?_ ?_ | refine gos ?_ ?_ | refine cdn ?_ ?_ | refine cds ?_ ?_ | refine gpn ?_ ?_ | refine gps ?_ ?_) <;> intro h <;> (try simp only [dt, df, gi, gt] at h) <;> try simp -implicitDefEqProofs only [go_sem, *]) | ((with_reducible refine And.intro ?_ ?_); (· first | omega | (simp only [List.length_take]; omega)); try simp -implicitDefEqProofs only [go_sem, *]) | first | ((with_reducible refine pick_at hC ?_ ?_ ?_); (· omega); (· first | decide | omega); rintro k1 hk1; try simp -implicitDefEqProofs only [go_sem, *]) | ((with_reducible refine at_reader (l71Rec_c l _ hC (by omega)) (fun _ _ => rfl) ?_); rintro ⟨x, p2⟩ ⟨h1, h2⟩; simp only at *; try simp -implicitDefEqProofs only [go_sem, *])))
  all_goals try (refine fin_log (lg := c.log) rfl ?_ ?_ rfl ?_ ?_ <;> omega)
  · refine fin_log (lg := c.log ++ [x]) rfl ?_ ?_ rfl ?_ ?_ <;> first | omega | (simp <;> omega)
  rename_i k0 hk0
  have hk0' : 0 ≤ k0 ∧ k0 < c.log.length := hk0
  refine ⟨by omega, by omega, ?_⟩
  refine fin_log rfl ?_ ?_ rfl ?_ ?_ <;> first | omega | (simp <;> omega)
theorem l6Open_fn (l : List Int) (hl : l.length < 4611686018427387904) (hb : Byt l) : Fn Tryz.prog 19 [bts l] (fun r S => ∃ l', Cod l' ∧ r = .ref 0 2 0 0 ∧ S = [oR l' 0]) := by
  refine fn_of Tryz.func19 rfl rfl ?_
  simp -implicitDefEqProofs only [go_sem, Tryz.f19]
  (repeat' (first | ((with_reducible first | refine gon ?_ ?_ | refine gos ?_ ?_ | refine cdn ?_ ?_ | refine cds ?_ ?_ | refine gpn ?_ ?_ | refine gps ?_ ?_) <;> intro h <;> (try simp only [dt, df, gi, gt] at h) <;> try simp -implicitDefEqProofs only [go_sem, *]) | ((with_reducible refine And.intro ?_ ?_); (· first | omega | (simp only [List.length_take]; omega)); try simp -implicitDefEqProofs only [go_sem, *]) | fail))
  · exact fin_same ⟨⟨l.take 2000, ⟨fun k hk => by rw [at_take l 2000 (by simp at hk; omega)]; exact hb k (by simp at hk; omega), by simp; omega⟩, rfl, rfl⟩, rfl⟩
  · exact fin_same ⟨⟨l, ⟨hb, by omega⟩, rfl, rfl⟩, rfl⟩
end
end Go.Proofs.YtjdebcankncfaabGreat.Am
end
