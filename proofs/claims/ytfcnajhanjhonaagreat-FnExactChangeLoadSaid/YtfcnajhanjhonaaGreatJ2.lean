/- Lemmas and walks: Am20 Am21 Am22 Am23 Am24 Am25 Am26 Ah Ai Aj Ak Xk Al An2 Dat Typ Pu1 Pu2 Fa Fb Fc. No conditions. -/
import Derived.Test.YtfcnajhanjhonaaGreatJ1
import Derived.Test.YtfcnajhanjhonaaGreatProg
section
set_option linter.unusedVariables false
set_option linter.unusedSimpArgs false
namespace Go.Proofs.YtfcnajhanjhonaaGreat.Am
open Go Go.RowKit
section
section
variable {P : Program} {ok : Nat → Prop} {w0 : World} {μ0 : Nat → Nat} {Sc : Store} {st : St} {μ : Nat → Nat} {a : Act} {w : World}
theorem Rep.lt {S : Store} {x : AV} {v : Value} (h : Rep ok w μ S x v) : x.lt S.length := by
  intro j hj
  induction h with
  | prim v h1 => exact .prim v
  | sl z xs v h => exact .sl z xs
  | agg xs vs hl hs h ih =>
    refine .agg xs fun x hx => ?_
    obtain ⟨k, hk, rfl⟩ := List.mem_iff_getElem.1 hx
    exact ih k _ (vs[k]'(by omega)) (List.getElem?_eq_getElem hk) (List.getElem?_eq_getElem (by omega))
  | tup xs vs hl h ih =>
    refine .tup xs fun x hx => ?_
    obtain ⟨k, hk, rfl⟩ := List.mem_iff_getElem.1 hx
    exact ih k _ (vs[k]'(by omega)) (List.getElem?_eq_getElem hk) (List.getElem?_eq_getElem (by omega))
  | ro xs ad f hsp hne hb h1 h2 => exact .ro xs
  | ref i z k sub hi => exact .ref _ _ _ _ (by simp; omega)
  | own0 i z off A hi => exact .own _ _ _ _ (by simp; omega)
  | own i z off len c cs ty hi h0 hc hb hsz => exact .own _ _ _ _ (by simp; omega)
  | clo g caps vs hl h ih =>
    refine .clo g caps fun x hx => ?_
    obtain ⟨k, hk, rfl⟩ := List.mem_iff_getElem.1 hx
    exact ih k _ (vs[k]'(by omega)) (List.getElem?_eq_getElem hk) (List.getElem?_eq_getElem (by omega))
  | junk v h1 => exact .junk
  | any v => exact .any
/-- A new object in a place that was kept free for it. -/
theorem RelT.newAt (h : RelT ok w0 μ0 Sc st μ a w) (i : Nat) (hi : st.S[i]? = some none) (hi0 : Sc.length ≤ i) (ob : AObj) {w' : World} (md : Mod w (fun _ => False) w')
    (htm : ∀ (t : Nat) (x : AV), st.tm[t]? = some x → x.clean [i]) (hcl : ∀ (j : Nat) (o : AObj), st.S[j]? = some (some o) → ∀ x ∈ o.es, ∀ y ∈ x.cells, y.clean [i])
    (hz : 0 < ob.z) (hsiz : ∀ x ∈ ob.es, x.cells.length = ob.z ∧ ∀ y ∈ x.cells, y.scalar = true) (hob : ∀ x ∈ ob.es, ∀ y ∈ x.cells, y.clean [i])
    (hb : ob.es ≠ [] → ∃ cs ty, w'.heap[w.heap.size]? = some (.cells cs ty (0, 0)) ∧ ob.es.length * ob.z ≤ cs.size ∧
      ∀ (k : Nat) (x : AV) (j : Nat) (y : AV), ob.es[k]? = some x → x.cells[j]? = some y → ∃ v, cs[k * ob.z + j]? = some v ∧ Rep ok w μ st.S y v) :
    RelT ok w0 μ0 Sc { st with S := st.S.set i (some ob) } (fun j => if j = i then w.heap.size else μ j) a w' := by
  have hil : i < st.S.length := (List.getElem?_eq_some_iff.1 hi).1
  have hsome : ∀ (j : Nat) (o : AObj), (st.S.set i (some ob))[j]? = some (some o) → (j ≠ i ∧ st.S[j]? = some (some o)) ∨ (j = i ∧ o = ob) := by
    intro j o hj
    rw [List.getElem?_set] at hj
    split at hj
    · rename_i e; subst e
      simp only [hil, if_true, Option.some.injEq] at hj
      exact .inr ⟨rfl, hj.symm⟩
    · rename_i e; exact .inl ⟨fun e' => e e'.symm, hj⟩
  have lv : ∀ b, b < w.heap.size → liveB (st.S.set i (some ob)) (fun j => if j = i then w.heap.size else μ j) b → liveB st.S μ b := by
    rintro b hbl ⟨j, o, hj, hne, rfl⟩
    rcases hsome j o hj with ⟨hji, hj'⟩ | ⟨rfl, rfl⟩
    · exact ⟨j, o, hj', hne, by simp [hji]⟩
    · exact absurd (show w.heap.size < w.heap.size by simp at hbl) (Nat.lt_irrefl _)
  have md' : Mod w (liveB st.S μ) w' := ⟨md.os, md.tape, md.output, md.size, fun b hb _ => md.keep b hb id, md.shape⟩
  have hh : Hop w μ st.S w' (fun j => if j = i then w.heap.size else μ j) (st.S.set i (some ob)) [i] :=
    ⟨fun ad u hn hc => md'.cell ad u hn hc, lv, by simp, fun j hj hm => by simp at hm; simp [hm], md'.shape⟩
  have rs : RelS ok w' (fun j => if j = i then w.heap.size else μ j) (st.S.set i (some ob)) := by
    refine ⟨?_, ?_, ?_⟩
    · intro j o hj hne
      rcases hsome j o hj with ⟨hji, hj'⟩ | ⟨rfl, rfl⟩
      · obtain ⟨cs, ty, hb, hs, hc⟩ := h.rs.blk j o hj' hne
        refine ⟨cs, ty, ?_, hs, fun k x jj y hk hjj => ?_⟩
        · simp only [hji, if_false]
          rw [md.keep _ (Array.getElem?_eq_some_iff.1 hb).1 id]
          exact hb
        · obtain ⟨v, hv, hr⟩ := hc k x jj y hk hjj
          exact ⟨v, hv, hr.hop hh (hcl j o hj' x (List.mem_of_getElem? hk) y (List.mem_of_getElem? hjj))⟩
      · obtain ⟨cs, ty, hb', hs, hc⟩ := hb hne
        refine ⟨cs, ty, by simpa using hb', hs, fun k x jj y hk hjj => ?_⟩
        obtain ⟨v, hv, hr⟩ := hc k x jj y hk hjj
        exact ⟨v, hv, hr.hop hh (hob x (List.mem_of_getElem? hk) y (List.mem_of_getElem? hjj))⟩
    · intro j o hj
      rcases hsome j o hj with ⟨hji, hj'⟩ | ⟨rfl, rfl⟩
      · exact h.rs.siz j o hj'
      · exact ⟨hz, hsiz⟩
    · intro j k oj ok' hj hk hnj hnk e
      rcases hsome j oj hj with ⟨hji, hj'⟩ | ⟨rfl, rfl⟩ <;> rcases hsome k ok' hk with ⟨hki, hk'⟩ | ⟨rfl, rfl⟩
      · simp only [hji, hki, if_false] at e
        exact h.rs.inj j k oj ok' hj' hk' hnj hnk e
      · have := RelS.block_lt h.rs ⟨j, oj, hj', hnj, rfl⟩
        simp only [hji, if_false, if_true] at e
        omega
      · have := RelS.block_lt h.rs ⟨k, ok', hk', hnk, rfl⟩
        simp only [hki, if_false, if_true] at e
        omega
      · rfl
  refine ⟨rs, h.fr, h.df, h.sz, fun t x ht => (h.tm t x ht).hop hh (htm t x ht), h.md.trans md' (fun b hb hl => h.lv b hb hl), fun b hb hl => h.lv b hb (lv b (Nat.lt_of_lt_of_le hb h.md.size) hl), by simpa using h.ln, ?_⟩
  intro j hj hm
  have : j ≠ i := by omega
  simp only [this, if_false]
  exact h.mu j hj hm
theorem clean_two {i j : Nat} : ∀ {x : AV}, x.clean [i] → x.clean [j] → x.clean [i, j] := by
  intro x h
  induction h with
  | prim v => exact fun _ => .prim v
  | sl z xs => exact fun _ => .sl z xs
  | agg xs h ih => intro k; cases k with | agg _ k => exact .agg xs fun x hx => ih x hx (k x hx)
  | tup xs h ih => intro k; cases k with | tup _ k => exact .tup xs fun x hx => ih x hx (k x hx)
  | ro xs => exact fun _ => .ro xs
  | ref i z k sub hm => intro k; cases k with | ref _ _ _ _ hm' => exact .ref _ _ _ _ (by simp at hm hm' ⊢; exact ⟨hm, hm'⟩)
  | own i z o l hm => intro k; cases k with | own _ _ _ _ hm' => exact .own _ _ _ _ (by simp at hm hm' ⊢; exact ⟨hm, hm'⟩)
  | clo g xs h ih => intro k; cases k with | clo _ _ k => exact .clo g xs fun x hx => ih x hx (k x hx)
  | junk => exact fun _ => .junk
  | any => exact fun _ => .any
theorem clean2 {n : Nat} {x : AV} (h : x.lt n) (i j : Nat) (hi : n ≤ i) (hj : n ≤ j) : x.clean [i, j] := clean_two (h i hi) (h j hj)
/-- A value, its objects' places renamed. -/
theorem Rep.ren {μ' : Nat → Nat} {S S' : Store} {mv : List Nat} (live : ∀ b, liveB S' μ' b → liveB S μ b) (idx : ∀ i, i < S.length → mv.contains i = false → i < S'.length) (mu : ∀ i, i < S.length → mv.contains i = false → μ' i = μ i)
    {x : AV} {v : Value} (h : Rep ok w μ S x v) (hx : x.clean mv) : Rep ok w μ' S' x v := by
  have hd : ∀ {d : D} {u : Value}, RepD w (fun b => ok b ∧ ¬ liveB S μ b) d u → RepD w (fun b => ok b ∧ ¬ liveB S' μ' b) d u := fun h =>
    h.mono (fun ad u _ hc => hc) (fun ad u hl hc => ⟨hl.1, fun hl' => hl.2 (live _ hl')⟩)
  induction h with
  | prim v h1 => exact .prim v h1
  | sl z xs v h => exact .sl z xs v (hd h)
  | agg xs vs hl hs h ih => cases hx with | agg _ hx => exact .agg xs vs hl hs fun j x v hj hv => ih j x v hj hv (hx x (List.mem_of_getElem? hj))
  | tup xs vs hl h ih => cases hx with | tup _ hx => exact .tup xs vs hl fun j x v hj hv => ih j x v hj hv (hx x (List.mem_of_getElem? hj))
  | ro xs ad f hsp hne hb h1 h2 => exact .ro xs ad f hsp hne ⟨hb.1, fun hl' => hb.2 (live _ hl')⟩ h1 (fun j y hj => hd (h2 j y hj))
  | ref i z k sub hi => cases hx with | ref _ _ _ _ hm => rw [← mu i hi hm]; exact .ref i z k sub (idx i hi hm)
  | own0 i z off A hi => cases hx with | own _ _ _ _ hm => exact .own0 i z off A (idx i hi hm)
  | own i z off len c cs ty hi h0 hc hb hsz =>
    cases hx with
    | own _ _ _ _ hm =>
      rw [← mu i hi hm]
      exact .own i z off len c cs ty (idx i hi hm) h0 hc (by rw [mu i hi hm]; exact hb) hsz
  | clo g caps vs hl h ih => cases hx with | clo _ _ hx => exact .clo g caps vs hl fun j x v hj hv => ih j x v hj hv (hx x (List.mem_of_getElem? hj))
  | junk v h1 => exact .junk v h1
  | any v => exact .any v
theorem Rep.at0 {μ' : Nat → Nat} {S S' : Store} {n i : Nat} (live : ∀ b, liveB S' μ' b → liveB S μ b) (hi : i < S'.length) (hmu : μ' i = μ n) {x : AV} {v : Value} (hs : x.smp0 = true) (h : Rep ok w μ S (x.at0 n) v) : Rep ok w μ' S' (x.at0 i) v := by
  cases x <;> simp only [AV.smp0] at hs <;> first | (cases hs; done) | skip
  · cases h; exact .prim _ ‹_›
  · cases h with
    | sl _ _ _ h => exact .sl _ _ _ (h.mono (fun ad u _ hc => hc) (fun ad u hl hc => ⟨hl.1, fun hl' => hl.2 (live _ hl')⟩))
  · cases h with
    | ref _ z k sub _ => simp only [AV.at0]; rw [← hmu]; exact .ref _ _ _ _ hi
  · cases h with
    | own0 => exact .own0 _ _ _ _ hi
    | own _ _ _ _ c cs ty _ h0 hc hb hsz =>
      simp only [AV.at0]
      rw [← hmu]
      exact .own _ _ _ _ c cs ty hi h0 hc (by rw [hmu]; exact hb) hsz
theorem at0_scalar {n : Nat} {x : AV} (h : (x.at0 n).scalar = true) (i : Nat) : (x.at0 i).scalar = true := by cases x <;> simp_all [AV.at0, AV.scalar]
theorem Rep.at {μ' : Nat → Nat} {S S' : Store} {n i : Nat} (live : ∀ b, liveB S' μ' b → liveB S μ b) (hi : i < S'.length) (hmu : μ' i = μ n) {x : AV} {v : Value} (hs : x.smp = true) (h : Rep ok w μ S (x.at n) v) : Rep ok w μ' S' (x.at i) v := by
  cases x with
  | agg xs =>
    simp only [AV.at] at h ⊢
    cases h with
    | agg _ vs hl hsc h =>
      refine .agg _ vs (by simpa using hl) ?_ ?_
      · intro y hy
        obtain ⟨x, hx, rfl⟩ := List.mem_map.1 hy
        exact at0_scalar (hsc _ (List.mem_map_of_mem hx)) i
      · intro j y u hj hv
        rw [List.getElem?_map] at hj
        obtain ⟨x, hx, rfl⟩ := Option.map_eq_some_iff.1 hj
        simp only [AV.smp, List.all_eq_true] at hs
        exact Rep.at0 live hi hmu (hs x (List.mem_of_getElem? hx)) (h j _ u (by rw [List.getElem?_map, hx]; rfl) hv)
  | tup => cases hs
  | ro => cases hs
  | clo => cases hs
  | junk => cases hs
  | any => cases hs
  | prim v => exact Rep.at0 live hi hmu (x := .prim v) rfl h
  | sl z xs => exact Rep.at0 live hi hmu (x := .sl z xs) rfl h
  | ref j z k s => exact Rep.at0 live hi hmu (x := .ref j z k s) rfl h
  | own j z o l => exact Rep.at0 live hi hmu (x := .own j z o l) rfl h
theorem at_clean {x : AV} (hs : x.smp = true) : ∀ i j, i ≠ j → (x.at i).clean [j] := by
  intro i j hij
  have hc : ([j].contains i) = false := by simp; exact hij
  have h0 : ∀ y : AV, y.smp0 = true → (y.at0 i).clean [j] := by
    intro y hy
    cases y <;> simp only [AV.smp0] at hy <;> first | (cases hy; done) | skip
    · exact .prim _
    · exact .sl _ _
    · exact .ref _ _ _ _ hc
    · exact .own _ _ _ _ hc
  cases x with
  | agg xs =>
    simp only [AV.smp, List.all_eq_true] at hs
    refine .agg _ fun y hy => ?_
    obtain ⟨z, hz, rfl⟩ := List.mem_map.1 hy
    exact h0 z (hs z hz)
  | tup => cases hs
  | ro => cases hs
  | clo => cases hs
  | junk => cases hs
  | any => cases hs
  | prim v => exact h0 (.prim v) rfl
  | sl z xs => exact h0 (.sl z xs) rfl
  | ref j z k s => exact h0 (.ref j z k s) rfl
  | own j z o l => exact h0 (.own j z o l) rfl
/-- A call's new object, in a place that was kept free for it. -/
theorem RelT.madeAt (h : RelT ok w0 μ0 Sc st μ a w) (i : Nat) (hi : st.S[i]? = some none) (hi0 : Sc.length ≤ i) (ob : AObj) {w' : World} {μ' : Nat → Nat} (rs' : RelS ok w' μ' (st.S ++ [some ob])) (md : Mod w (liveB st.S μ) w')
    (lv' : ∀ b, b < w.heap.size → liveB (st.S ++ [some ob]) μ' b → liveB st.S μ b) (mu' : ∀ j, j < st.S.length → μ' j = μ j)
    (htm : ∀ (t : Nat) (x : AV), st.tm[t]? = some x → x.clean [i]) (hcl : ∀ (j : Nat) (o : AObj), st.S[j]? = some (some o) → ∀ x ∈ o.es, ∀ y ∈ x.cells, y.clean [i, st.S.length])
    (hob : ∀ x ∈ ob.es, ∀ y ∈ x.cells, y.clean [i, st.S.length]) :
    RelT ok w0 μ0 Sc { st with S := st.S.set i (some ob) } (fun j => if j = i then μ' st.S.length else μ' j) a w' ∧
      (∀ b, liveB (st.S.set i (some ob)) (fun j => if j = i then μ' st.S.length else μ' j) b → liveB (st.S ++ [some ob]) μ' b) := by
  have hil : i < st.S.length := (List.getElem?_eq_some_iff.1 hi).1
  have hsome : ∀ (j : Nat) (o : AObj), (st.S.set i (some ob))[j]? = some (some o) → (j ≠ i ∧ j < st.S.length ∧ st.S[j]? = some (some o)) ∨ (j = i ∧ o = ob) := by
    intro j o hj
    rw [List.getElem?_set] at hj
    split at hj
    · rename_i e; subst e
      simp only [hil, if_true, Option.some.injEq] at hj
      exact .inr ⟨rfl, hj.symm⟩
    · rename_i e; exact .inl ⟨fun e' => e e'.symm, (List.getElem?_eq_some_iff.1 hj).1, hj⟩
  have hnew : (st.S ++ [some ob])[st.S.length]? = some (some ob) := by simp
  have hold : ∀ (j : Nat) (o : AObj), j < st.S.length → st.S[j]? = some (some o) → (st.S ++ [some ob])[j]? = some (some o) := fun j o hj ho => by rw [List.getElem?_append_left hj]; exact ho
  have live : ∀ b, liveB (st.S.set i (some ob)) (fun j => if j = i then μ' st.S.length else μ' j) b → liveB (st.S ++ [some ob]) μ' b := by
    rintro b ⟨j, o, hj, hne, rfl⟩
    rcases hsome j o hj with ⟨hji, hjl, hj'⟩ | ⟨rfl, rfl⟩
    · exact ⟨j, o, hold j o hjl hj', hne, by simp [hji]⟩
    · exact ⟨st.S.length, o, hnew, hne, by simp⟩
  refine ⟨?_, live⟩
  have hren : ∀ {x : AV} {v : Value}, Rep ok w' μ' (st.S ++ [some ob]) x v → x.clean [i, st.S.length] → Rep ok w' (fun j => if j = i then μ' st.S.length else μ' j) (st.S.set i (some ob)) x v := fun h hx =>
    h.ren live (fun j hj hm => by simp at hj hm ⊢; omega) (fun j hj hm => by simp at hm; simp [hm]) hx
  have rs : RelS ok w' (fun j => if j = i then μ' st.S.length else μ' j) (st.S.set i (some ob)) := by
    refine ⟨?_, ?_, ?_⟩
    · intro j o hj hne
      rcases hsome j o hj with ⟨hji, hjl, hj'⟩ | ⟨rfl, rfl⟩
      · obtain ⟨cs, ty, hb, hs, hc⟩ := rs'.blk j o (hold j o hjl hj') hne
        refine ⟨cs, ty, by simpa [hji] using hb, hs, fun k x jj y hk hjj => ?_⟩
        obtain ⟨v, hv, hr⟩ := hc k x jj y hk hjj
        exact ⟨v, hv, hren hr (hcl j o hj' x (List.mem_of_getElem? hk) y (List.mem_of_getElem? hjj))⟩
      · obtain ⟨cs, ty, hb, hs, hc⟩ := rs'.blk _ o hnew hne
        refine ⟨cs, ty, by simpa using hb, hs, fun k x jj y hk hjj => ?_⟩
        obtain ⟨v, hv, hr⟩ := hc k x jj y hk hjj
        exact ⟨v, hv, hren hr (hob x (List.mem_of_getElem? hk) y (List.mem_of_getElem? hjj))⟩
    · intro j o hj
      rcases hsome j o hj with ⟨hji, hjl, hj'⟩ | ⟨rfl, rfl⟩
      · exact rs'.siz j o (hold j o hjl hj')
      · exact rs'.siz _ o hnew
    · intro j k oj ok' hj hk hnj hnk e
      rcases hsome j oj hj with ⟨hji, hjl, hj'⟩ | ⟨rfl, rfl⟩ <;> rcases hsome k ok' hk with ⟨hki, hkl, hk'⟩ | ⟨rfl, rfl⟩
      · simp only [hji, hki, if_false] at e
        exact rs'.inj j k oj ok' (hold j oj hjl hj') (hold k ok' hkl hk') hnj hnk e
      · simp only [hji, if_false, if_true] at e
        have := rs'.inj j _ oj _ (hold j oj hjl hj') hnew hnj hnk e
        omega
      · simp only [hki, if_false, if_true] at e
        have := rs'.inj _ k _ ok' hnew (hold k ok' hkl hk') hnj hnk e
        omega
      · rfl
  have hh : Hop w μ st.S w' (fun j => if j = i then μ' st.S.length else μ' j) (st.S.set i (some ob)) [i] :=
    ⟨fun ad u hn hc => md.cell ad u hn hc, fun b hb hl => lv' b hb (live b hl), by simp, fun j hj hm => by simp at hm; simp [hm, mu' j hj], md.shape⟩
  refine ⟨rs, h.fr, h.df, h.sz, fun t x ht => (h.tm t x ht).hop hh (htm t x ht), h.md.trans md (fun b hb hl => h.lv b hb hl), fun b hb hl => h.lv b hb (lv' b (Nat.lt_of_lt_of_le hb h.md.size) (live b hl)), by simpa using h.ln, ?_⟩
  intro j hj hm
  have : j ≠ i := by omega
  simp only [this, if_false]
  rw [mu' j (Nat.lt_of_lt_of_le hj h.ln)]
  exact h.mu j hj hm
/-- Places kept free. -/
theorem RelT.room (h : RelT ok w0 μ0 Sc st μ a w) (k : Nat) : RelT ok w0 μ0 Sc { st with S := st.S ++ List.replicate k none } μ a w := by
  have hsome : ∀ (j : Nat) (o : AObj), (st.S ++ List.replicate k none)[j]? = some (some o) → st.S[j]? = some (some o) := by
    intro j o hj
    rw [List.getElem?_append] at hj
    split at hj
    · exact hj
    · rw [List.getElem?_replicate] at hj; split at hj <;> simp at hj
  have hlive : ∀ b, liveB (st.S ++ List.replicate k none) μ b → liveB st.S μ b := fun b ⟨i, o, hi, hne, e⟩ => ⟨i, o, hsome i o hi, hne, e⟩
  have hh : Hop w μ st.S w μ (st.S ++ List.replicate k none) [] := ⟨fun _ _ _ hc => hc, fun b _ hl => hlive b hl, by simp, fun _ _ _ => rfl, fun b cs ty fz hb => ⟨cs, hb, rfl⟩⟩
  refine ⟨⟨?_, fun i o hi => h.rs.siz i o (hsome i o hi), fun i j oi oj hi hj => h.rs.inj i j oi oj (hsome i oi hi) (hsome j oj hj)⟩, h.fr, h.df, h.sz, fun t x ht => (h.tm t x ht).hop hh (AV.clean_nil x), h.md, fun b hb hl => h.lv b hb (hlive b hl), Nat.le_trans h.ln (by simp), h.mu⟩
  intro i o hi hne
  obtain ⟨cs, ty, hb, hs, hc⟩ := h.rs.blk i o (hsome i o hi) hne
  exact ⟨cs, ty, hb, hs, fun k x j y hk hj => by obtain ⟨v, hv, hr⟩ := hc k x j y hk hj; exact ⟨v, hv, hr.hop hh (AV.clean_nil y)⟩⟩
theorem opR_new_mk {T : TypeId → Option TI} {tm : List AV} {S : Store} {op : Op} {φ : Prop} {ob : AObj} {mk : Nat → AV} (h : opR T tm S op = .new φ ob mk) : ∀ i j, i ≠ j → (mk i).clean [j] := by
  intro i j hij
  have hc : ([j].contains i) = false := by simp; exact hij
  have nov : ∀ {x : OpR}, ((∃ φ v, x = .val φ v) ∨ x = .stuck) → x ≠ .new φ ob mk := by
    rintro x (⟨φ, v, rfl⟩ | rfl) e <;> cases e
  cases op <;> simp only [opR] at h <;> try (cases h; done)
  case pick c x y => split at h <;> cases h
  case load t x => obtain ⟨ti, ht, hr⟩ := onT_new h; exact absurd hr (nov (loadR_val _ _ _))
  case store t x y =>
    obtain ⟨ti, ht, hr⟩ := onT_new h
    unfold storeR at hr
    split at hr <;> try (cases hr; done)
    split at hr <;> cases hr
  case fieldAddr t x f => obtain ⟨ti, ht, hr⟩ := onT_new h; exact absurd hr (nov (fieldR_val _ _ _))
  case indexAddr t x ix => obtain ⟨ti, ht, hr⟩ := onT_new h; exact absurd hr (nov (indexR_val _ _ _ _))
  case binOp op t x y _ => exact absurd h (nov (binT_val _ _ _ _))
  case unOp op t x => split at h <;> cases h
  case nilCheck x => split at h <;> cases h
  case extract x i => split at h <;> cases h
  case makeFunc fn first caps =>
    cases fn <;> simp only at h <;> try (cases h; done)
    split at h <;> cases h
  case convert s d x => exact absurd h (nov (convR_val _ _ _ _ _))
  case slice t x lo hi mx =>
    split at h
    · unfold cutR at h
      (repeat' split at h) <;> first | (cases h; done) | skip
      cases h; exact .own _ _ _ _ hc
    · obtain ⟨ti, ht, hr⟩ := onT_new h; exact absurd hr (nov (sliceR_val _ _ _ _ _ _ _))
  case alloc t => obtain ⟨ti, ht, hr⟩ := onT_new h; cases hr; exact .ref _ _ _ _ hc
  case box t x => cases h; exact .ref _ _ _ _ hc
  case makeSlice t l c =>
    unfold makeR at h
    (repeat' split at h) <;> first | (cases h; done) | skip
    cases h; exact .own _ _ _ _ hc
  case buildSlice t len parts =>
    unfold buildSliceR at h
    (repeat' split at h) <;> first | (cases h; done) | skip
    cases h; exact .own _ _ _ _ hc
  case build t parts => exact absurd h (nov (buildR_val _ _ _ _))
  case call c =>
    obtain ⟨callee, args, ats⟩ := c
    unfold callR at h
    simp only at h
    split at h
    · exact absurd h (nov (lenOpR_val _ _ _))
    · split at h
      · unfold appendR at h
        (repeat' split at h) <;> first | (cases h; done) | skip
        cases h; exact .own _ _ _ _ hc
      · cases h
    · exact absurd h (nov (maxR_val _ _ _))
    · exact absurd h (nov (maxR_val _ _ _))
    · split at h <;> cases h
    · cases h
/-- The post operations, one behind the other. -/
theorem opF_new_mk {T : TypeId → Option TI} {tm : List AV} {S : Store} {op : Op} {φ : Prop} {ob : AObj} {mk : Nat → AV} (h : opF T tm S op = .new φ ob mk) : ∀ i j, i ≠ j → (mk i).clean [j] := opR_new_mk h
theorem post_any {ops : Array Oper} {npre : Nat} (hc : Chk ops npre) {Q : Exit → Act → World → Prop} {K : St → Prop} (hQ : ∀ st μ a w, K st → RelT ok w0 μ0 Sc st μ a w → Q .normal a w) :
    ∀ (fuel p : Nat) (listed : Array Bool) (st : St) (μ : Nat → Nat) (a : Act) (w : World), npre ≤ p → p + fuel = ops.size → listed.size = ops.size → (∀ k, k < ops.size → listed.getD k false = decide (k < p)) →
      opsP P ops (ops.toList.drop p) st K → RelT ok w0 μ0 Sc st μ a w → wpAny P .any ops Q fuel listed a w := by
  intro fuel
  induction fuel with
  | zero =>
    intro p listed st μ a w hp hs hl hlist hops hr
    have hnil : ops.toList.drop p = [] := List.drop_eq_nil_of_le (by simp; omega)
    rw [hnil] at hops
    refine wpAny_done ?_ (hQ st μ a w hops hr) 0
    apply List.eq_nil_iff_forall_not_mem.2
    intro j hj
    obtain ⟨h1, o, ho, _⟩ := mem_ready.1 hj
    have hjl := (Array.getElem?_eq_some_iff.1 ho).1
    have := hlist j hjl
    have e : listed.getD j true = listed.getD j false := by
      rw [Array.getD_eq_getD_getElem?, Array.getD_eq_getD_getElem?, Array.getElem?_eq_getElem (by omega)]
      rfl
    rw [e, this] at h1
    simp at h1
    omega
  | succ fuel ih =>
    intro p listed st μ a w hp hs hl hlist hops hr
    have hpl : p < ops.size := by omega
    have hgt : ∀ j, j < ops.size → listed.getD j true = listed.getD j false := by
      intro j hj
      rw [Array.getD_eq_getD_getElem?, Array.getD_eq_getD_getElem?, Array.getElem?_eq_getElem (by omega)]
      rfl
    have hop : ops[p]? = some ops[p] := Array.getElem?_eq_getElem hpl
    have hready : Region.ready .any ops listed = [p] := by
      have hmem : ∀ j, j ∈ Region.ready .any ops listed ↔ j = p := by
        intro j
        rw [mem_ready]
        constructor
        · rintro ⟨h1, o, ho, h2⟩
          have hjl := (Array.getElem?_eq_some_iff.1 ho).1
          rw [hgt j hjl, hlist j hjl] at h1
          have hjp : p ≤ j := by simpa using h1
          rcases Nat.lt_or_ge p j with hlt | hge
          · obtain ⟨e, he, hej⟩ := hc.post j o (by omega) ho p hlt
            have := h2 e he (hc.back j o ho e he).1
            rw [hej, hlist p hpl] at this
            simp at this
          · omega
        · rintro rfl
          refine ⟨by rw [hgt j hpl, hlist j hpl]; simp, _, hop, fun e he _ => ?_⟩
          have := (hc.back j _ hop e he).2
          rw [hlist e.on (by omega)]
          simp [this]
      have hnd : (Region.ready .any ops listed).Nodup := by unfold Region.ready; exact List.Pairwise.filter _ List.nodup_range
      cases hrd : Region.ready .any ops listed with
      | nil => have := (hmem p).2 rfl; rw [hrd] at this; simp at this
      | cons x xs =>
        have hx : x = p := (hmem x).1 (by rw [hrd]; simp)
        cases xs with
        | nil => rw [hx]
        | cons y ys =>
          have hy : y = p := (hmem y).1 (by rw [hrd]; simp)
          rw [hrd] at hnd
          simp [hx, hy] at hnd
    refine wpAny_all hready (by simp) ?_
    intro i hi
    obtain rfl := List.mem_singleton.1 hi
    have hdrop : ops.toList.drop i = ops[i] :: ops.toList.drop (i + 1) := by
      rw [List.drop_eq_getElem_cons (by simpa using hpl)]
      simp
    rw [hdrop] at hops
    have hlist' : ∀ k, k < ops.size → (listed.setIfInBounds i true).getD k false = decide (k < i + 1) := by
      intro k hk
      by_cases e : i = k
      · subst e
        rw [Array.getD_eq_getD_getElem?, Array.getElem?_setIfInBounds_self_of_lt (by omega)]
        simp
      · rw [getD_set_ne _ e, hlist k hk]
        rw [decide_eq_decide]
        omega
    unfold wpOp
    rw [hop]
    simp only
    simp only [opsP] at hops
    split at hops
    · exact hops.elim
    · rename_i hg
      rw [if_pos (gd_sound hr hg)]
      refine .inl (Oper.wp_mono ?_ (step_sound hr ops[i] hops (Q := Q)))
      rintro a' w' ⟨st', μ', hK, hr'⟩
      exact ih (i + 1) _ st' μ' a' w' (by omega) (by omega) (by simpa using hl) hlist' hK hr'
    · rename_i hg
      rw [if_neg (by rw [gd_sound hr hg]; simp)]
      exact ih (i + 1) _ _ μ _ w (by omega) (by omega) (by simpa using hl) hlist' hops (hr.put _ (rep_undef _ _ _ _))
end
end
section
section
variable {P : Program} {ok : Nat → Prop} {w0 : World} {μ0 : Nat → Nat} {Sc : Store}
/-- What holds while the first operations come up, in whatever order: those that are listed are done. -/
structure Pre (ops : Array Oper) (npre : Nat) (S0 : Store) (tm0 tmF : List AV) (NF : List AObj) (c : Nat → Nat) (b : Nat → Bool) (listed : Array Bool) (tmE : List AV) (SE : Store) : Prop where
  size : listed.size = ops.size
  below : ∀ k, k < ops.size → listed.getD k false = true → k < npre
  len : tmE.length = tmF.length
  done : ∀ k d, k < npre → listed.getD k false = true → dstOf ops k = some d → tmE[d]? = tmF[d]?
  todo : ∀ t, (∀ k, k < npre → listed.getD k false = true → dstOf ops k ≠ some t) → tmE[t]? = tm0[t]?
  slen : SE.length = S0.length + NF.length
  old : ∀ i, i < S0.length → SE[i]? = S0[i]?
  made : ∀ k, k < npre → b k = true → listed.getD k false = true → SE[S0.length + c k]? = some NF[c k]?
  free : ∀ k, k < npre → b k = true → listed.getD k false = false → SE[S0.length + c k]? = some none
theorem getD_b {listed : Array Bool} {j : Nat} (h : j < listed.size) : listed.getD j true = listed.getD j false := by
  rw [Array.getD_eq_getD_getElem?, Array.getD_eq_getD_getElem?, Array.getElem?_eq_getElem h]
  rfl
theorem getD_set {listed : Array Bool} {i k : Nat} (hi : i < listed.size) : (listed.setIfInBounds i true).getD k false = (decide (k = i) || listed.getD k false) := by
  by_cases e : i = k
  · subst e
    rw [Array.getD_eq_getD_getElem?, Array.getElem?_setIfInBounds_self_of_lt hi]
    simp
  · rw [getD_set_ne _ e]
    have : decide (k = i) = false := by simp; exact fun h => e h.symm
    rw [this, Bool.false_or]
theorem count_range (n : Nat) (p : Nat → Bool) (q : Nat → Bool) (h : ∀ k, k < n → p k = q k) : ((List.range n).filter p).length = ((List.range n).filter q).length := by
  rw [List.filter_congr (fun k hk => h k (List.mem_range.1 hk))]
theorem count_ge (n m : Nat) (h : m ≤ n) : ((List.range n).filter fun k => !decide (k < m)).length = n - m := by
  induction n with
  | zero => simp
  | succ n ih =>
    rw [List.range_succ, List.filter_append, List.length_append]
    rcases Nat.lt_or_ge n m with hlt | hge
    · have hm : m = n + 1 := by omega
      subst hm
      have : (List.range n).filter (fun k => !decide (k < n + 1)) = [] := by
        apply List.filter_eq_nil_iff.2
        intro a ha
        have := List.mem_range.1 ha
        simp; omega
      rw [this]; simp
    · rw [ih hge]
      simp [hge]
      omega
/-- One more is listed. -/
theorem count_set {listed : Array Bool} {n i : Nat} (hs : listed.size = n) (hi : i < n) (hl : listed.getD i false = false) :
    ((List.range n).filter fun k => !listed.getD k false).length = ((List.range n).filter fun k => !(listed.setIfInBounds i true).getD k false).length + 1 := by
  have key : ∀ m, m ≤ n → ((List.range m).filter fun k => !listed.getD k false).length = ((List.range m).filter fun k => !(listed.setIfInBounds i true).getD k false).length + (if i < m then 1 else 0) := by
    intro m
    induction m with
    | zero => intro _; simp
    | succ m ih =>
      intro hm
      have ih' := ih (by omega)
      rw [List.range_succ, List.filter_append, List.filter_append, List.length_append, List.length_append, ih']
      have hg := getD_set (listed := listed) (i := i) (k := m) (by omega)
      simp only [List.filter_cons, List.filter_nil, hg]
      rcases Nat.lt_trichotomy i m with h | h | h
      · have e : decide (m = i) = false := by simp; omega
        simp only [e, Bool.false_or, if_pos h, if_pos (show i < m + 1 by omega)]
        omega
      · subst h
        simp [hl]
      · have e : decide (m = i) = false := by simp; omega
        simp only [e, Bool.false_or, if_neg (show ¬ i < m by omega), if_neg (show ¬ i < m + 1 by omega)]
        omega
  have := key n (Nat.le_refl _)
  rwa [if_pos hi] at this
theorem pre_any {ops : Array Oper} {npre : Nat} (hc : Chk ops npre) {S0 : Store} {tm0 tmF : List AV} {NF : List AObj} {c : Nat → Nat} {b : Nat → Bool} {mv : List Nat}
    (hcert : ∀ k, k < npre → ∃ o d, ops[k]? = some o ∧ Cert P ops S0 tmF NF o d (c k) (b k)) (hcr : ∀ k, k < npre → b k = true → c k < NF.length) (hci : ∀ k j, k < npre → j < npre → b k = true → b j = true → c k = c j → k = j)
    (hcs : ∀ s, s < NF.length → ∃ k, k < npre ∧ b k = true ∧ c k = s) (hag : ∀ t, (∀ k, k < npre → dstOf ops k ≠ some t) → tmF[t]? = tm0[t]?) (htl : tmF.length = tm0.length)
    (hlt0 : ∀ (t : Nat) (x : AV), tm0[t]? = some x → x.lt S0.length) (hltS : ∀ (j : Nat) (o : AObj), S0[j]? = some (some o) → ∀ x ∈ o.es, ∀ y ∈ x.cells, y.lt S0.length) (hSc : Sc.length ≤ S0.length)
    {Q : Exit → Act → World → Prop} {K : St → Prop} (hQ : ∀ st μ a w, K st → RelT ok w0 μ0 Sc st μ a w → Q .normal a w)
    (hpost : opsP P ops (ops.toList.drop npre) ⟨tmF, S0 ++ NF.map some, mv⟩ K) :
    ∀ (fuel : Nat) (listed : Array Bool) (tmE : List AV) (SE : Store) (μ : Nat → Nat) (a : Act) (w : World), Pre ops npre S0 tm0 tmF NF c b listed tmE SE → ((List.range ops.size).filter fun k => !listed.getD k false).length = fuel →
      RelT ok w0 μ0 Sc ⟨tmE, SE, mv⟩ μ a w → wpAny P .any ops Q fuel listed a w := by
  have hdst : ∀ k o d, k < npre → ops[k]? = some o → o.dst = some d → dstOf ops k = some d := fun k o d _ ho hd => by simp [dstOf, ho, hd]
  -- all first operations are listed
  have hdone : ∀ (listed : Array Bool) (tmE : List AV) (SE : Store) (μ : Nat → Nat) (a : Act) (w : World) (fuel : Nat), Pre ops npre S0 tm0 tmF NF c b listed tmE SE → ((List.range ops.size).filter fun k => !listed.getD k false).length = fuel →
      (∀ k, k < npre → listed.getD k false = true) → RelT ok w0 μ0 Sc ⟨tmE, SE, mv⟩ μ a w → wpAny P .any ops Q fuel listed a w := by
    intro listed tmE SE μ a w fuel hpre hfuel hall hr
    have hlist : ∀ k, k < ops.size → listed.getD k false = decide (k < npre) := by
      intro k hk
      by_cases h : k < npre
      · rw [hall k h]; simp [h]
      · cases hb : listed.getD k false with
        | true => exact absurd (hpre.below k hk hb) h
        | false => simp [h]
    have hf : npre + fuel = ops.size := by
      rw [← hfuel, count_range _ _ (fun k => !decide (k < npre)) (fun k hk => by rw [hlist k hk]), count_ge _ _ hc.le]
      have := hc.le
      omega
    have htm : tmE = tmF := by
      apply List.ext_getElem?
      intro t
      by_cases h : ∃ k, k < npre ∧ dstOf ops k = some t
      · obtain ⟨k, hk, hd⟩ := h
        exact hpre.done k t hk (hall k hk) hd
      · rw [hpre.todo t (fun k hk _ hd => h ⟨k, hk, hd⟩), hag t (fun k hk hd => h ⟨k, hk, hd⟩)]
    have hS : SE = S0 ++ NF.map some := by
      apply List.ext_getElem?
      intro i
      rcases Nat.lt_or_ge i S0.length with h | h
      · rw [hpre.old i h, List.getElem?_append_left h]
      · rw [List.getElem?_append_right h, List.getElem?_map]
        rcases Nat.lt_or_ge (i - S0.length) NF.length with h2 | h2
        · obtain ⟨k, hk, hb, hck⟩ := hcs _ h2
          have := hpre.made k hk hb (hall k hk)
          rw [hck, Nat.add_sub_cancel' h] at this
          rw [this, List.getElem?_eq_getElem h2]
          rfl
        · rw [List.getElem?_eq_none (by rw [hpre.slen]; omega), List.getElem?_eq_none h2]
          rfl
    subst htm; subst hS
    exact post_any hc hQ fuel npre listed _ μ a w (Nat.le_refl _) hf hpre.size hlist hpost hr
  intro fuel
  induction fuel with
  | zero =>
    intro listed tmE SE μ a w hpre hfuel hr
    refine hdone listed tmE SE μ a w 0 hpre hfuel (fun k hk => ?_) hr
    cases hb : listed.getD k false with
    | true => rfl
    | false =>
      have : k ∈ (List.range ops.size).filter fun k => !listed.getD k false := by
        simp only [List.mem_filter, List.mem_range]; exact ⟨by have := hc.le; omega, by simpa using hb⟩
      rw [List.eq_nil_of_length_eq_zero hfuel] at this
      simp at this
  | succ fuel ih =>
    intro listed tmE SE μ a w hpre hfuel hr
    by_cases hall : ∀ k, k < npre → listed.getD k false = true
    · exact hdone listed tmE SE μ a w (fuel + 1) hpre hfuel hall hr
    · -- one of the first operations is still to come: the ready ones are such
      obtain ⟨k0, hk0, hl0, hmin⟩ : ∃ k, k < npre ∧ listed.getD k false = false ∧ ∀ j, j < k → listed.getD j false = true := by
        have hex : ∃ k, k < npre ∧ listed.getD k false = false := by
          apply Classical.byContradiction
          intro hn
          apply hall
          intro k hk
          cases hb : listed.getD k false with
          | true => rfl
          | false => exact absurd ⟨k, hk, hb⟩ hn
        obtain ⟨k, hk⟩ := hex
        induction k using Nat.strongRecOn with
        | _ k ihk =>
          by_cases h : ∃ j, j < k ∧ listed.getD j false = false
          · obtain ⟨j, hj, hlj⟩ := h
            exact ihk j hj ⟨by omega, hlj⟩
          · refine ⟨k, hk.1, hk.2, fun j hj => ?_⟩
            cases hb : listed.getD j false with
            | true => rfl
            | false => exact absurd ⟨j, hj, hb⟩ h
      have hnp := hc.le
      have hk0r : k0 ∈ Region.ready .any ops listed := by
        rw [mem_ready]
        refine ⟨by rw [getD_b (by rw [hpre.size]; omega)]; exact hl0, ops[k0]'(by omega), Array.getElem?_eq_getElem (by omega), fun e he _ => ?_⟩
        exact hmin _ (hc.back k0 _ (Array.getElem?_eq_getElem (by omega)) e he).2
      refine ⟨fun h0 => (by rw [h0] at hk0r; simp at hk0r), fun i hi => ?_⟩
      obtain ⟨hi1, o, ho, hi2⟩ := mem_ready.1 hi
      have hil := (Array.getElem?_eq_some_iff.1 ho).1
      rw [getD_b (by rw [hpre.size]; omega)] at hi1
      have hinp : i < npre := by
        rcases Nat.lt_or_ge i npre with h | h
        · exact h
        · exfalso
          obtain ⟨e, he, hek⟩ := hc.post i o (by omega) ho k0 (by omega)
          have := hi2 e he (hc.back i o ho e he).1
          rw [hek, hl0] at this
          cases this
      obtain ⟨o', d, ho', hd, hcases⟩ := hcert i hinp
      rw [ho] at ho'
      cases ho'
      have hdi := hdst i o d hinp ho hd
      -- what it looks at is as it will be at the end
      have hlk : ∀ t ∈ o.looksAt ops, tmE[t]? = tmF[t]? := by
        intro t ht
        by_cases h : ∃ j, j < npre ∧ dstOf ops j = some t
        · obtain ⟨j, hj, hdj⟩ := h
          obtain ⟨e, he, hej⟩ := hc.look i o hinp ho t ht j hj hdj
          have := hi2 e he (hc.back i o ho e he).1
          rw [hej] at this
          exact hpre.done j t hj this hdj
        · rw [hpre.todo t (fun k hk _ hdk => h ⟨k, hk, hdk⟩), hag t (fun k hk hdk => h ⟨k, hk, hdk⟩)]
      have hgE : gd ops tmE o = gd ops tmF o := gd_eq hlk
      have hoE : ∀ S, opF (tiOf P) tmE S o.op = opF (tiOf P) tmF S o.op := fun S => opF_eq hlk
      have hmore : ∀ i o, getO S0 i = some o → getO SE i = some o := by
        intro i o hio
        have h1 := getO_some hio
        have hlt := (List.getElem?_eq_some_iff.1 h1).1
        unfold getO
        rw [hpre.old i hlt, h1]
      have hfuel' : ((List.range ops.size).filter fun k => !(listed.setIfInBounds i true).getD k false).length = fuel := by
        have := count_set (listed := listed) hpre.size hil hi1
        omega
      have hset : ∀ k, (listed.setIfInBounds i true).getD k false = (decide (k = i) || listed.getD k false) := fun k => getD_set (by rw [hpre.size]; exact hil)
      have hdlen : d < tmE.length := by
        rw [hpre.len]
        have : ∃ x, tmF[d]? = some x := by
          rcases hcases with h | h | h | h | h
          · exact ⟨_, h.2.2⟩
          · obtain ⟨_, _, _, v, _, _, h, _⟩ := h; exact ⟨_, h⟩
          · obtain ⟨_, _, _, _, v, _, _, h, _⟩ := h; exact ⟨_, h⟩
          · obtain ⟨_, _, _, _, _, _, _, h, _⟩ := h; exact ⟨_, h⟩
          · obtain ⟨_, _, _, _, _, _, _, _, _, h, _⟩ := h; exact ⟨_, h⟩
        obtain ⟨x, hx⟩ := this
        exact (List.getElem?_eq_some_iff.1 hx).1
      -- the state behind it
      have hnext : ∀ (v : AV) (SE' : Store), tmF[d]? = some v → SE'.length = SE.length → (∀ j, j < S0.length → SE'[j]? = S0[j]?) →
          (∀ k, k < npre → b k = true → k ≠ i → SE'[S0.length + c k]? = SE[S0.length + c k]?) → (b i = true → SE'[S0.length + c i]? = some NF[c i]?) →
          Pre ops npre S0 tm0 tmF NF c b (listed.setIfInBounds i true) (tmE.set d v) SE' := by
        intro v SE' hv hsl hold hoth hmine
        refine ⟨by simpa using hpre.size, ?_, by simpa using hpre.len, ?_, ?_, by rw [hsl, hpre.slen], hold, ?_, ?_⟩
        · intro k hk hl
          rw [hset] at hl
          by_cases e : k = i
          · rw [e]; exact hinp
          · simp [e] at hl; exact hpre.below k hk (by simpa using hl)
        · intro k d' hk hl hdk
          rw [hset] at hl
          by_cases e : k = i
          · subst e
            rw [hdi] at hdk
            cases hdk
            rw [List.getElem?_set_self hdlen, hv]
          · have hne : d ≠ d' := by
              intro e2
              subst e2
              exact hc.uniq i o hinp ho k hk e (by rw [hdk, hd])
            rw [List.getElem?_set_ne hne]
            exact hpre.done k d' hk (by simpa [e] using hl) hdk
        · intro t ht
          have hne : d ≠ t := by
            intro e2
            subst e2
            exact ht i hinp (by rw [hset]; simp) hdi
          rw [List.getElem?_set_ne hne]
          exact hpre.todo t (fun k hk hl hdk => ht k hk (by rw [hset, hl]; simp) hdk)
        · intro k hk hb hl
          rw [hset] at hl
          by_cases e : k = i
          · subst e; exact hmine hb
          · rw [hoth k hk hb e]; exact hpre.made k hk hb (by simpa [e] using hl)
        · intro k hk hb hl
          rw [hset] at hl
          have e : k ≠ i := by intro e; simp [e] at hl
          rw [hoth k hk hb e]; exact hpre.free k hk hb (by simpa [e] using hl)
      unfold wpOp
      rw [ho]
      simp only
      rcases hcases with ⟨hbi, hg, hv⟩ | ⟨hbi, hg, φ, v, hop, hφ, hv, hvl⟩ | ⟨hbi, hg, f, args, v, hop, hdet, hv, hvl⟩ | ⟨hbi, hg, φ, ob, mk, hop, hφ, hv, hob, hobl⟩ | ⟨hbi, hg, f, args, r0, ob, hop, hdet, hsm, hv, hob, hobl⟩
      · rw [if_neg (by rw [gd_sound hr (by rw [hgE]; exact hg)]; simp)]
        have hp := hnext (.tup []) SE hv rfl hpre.old (fun _ _ _ _ => rfl) (fun h => by rw [hbi] at h; cases h)
        have hr' := hr.put o.dst (rep_undef ok w μ SE)
        rw [hd] at hr'
        rw [hd]
        exact ih _ _ _ μ _ w hp hfuel' hr'
      · rw [if_pos (gd_sound hr (by rw [hgE]; exact hg))]
        have hopE : opR (tiOf P) tmE SE o.op = .val φ v := by
          refine opF_of ?_ (by first | exact .inl ⟨_, _, rfl⟩ | exact .inr ⟨_, _, rfl⟩)
          have h1 := opF_more hmore o.op (T := tiOf P) (tm := tmF) (by rw [hop]; trivial)
          rw [hoE, h1, hop]
        obtain ⟨u, h1, h2⟩ := val_sound hr.rs hr.evs o hopE hφ
        refine .inl ?_
        unfold Oper.wp
        rw [h1]
        have hp := hnext v SE hv rfl hpre.old (fun _ _ _ _ => rfl) (fun h => by rw [hbi] at h; cases h)
        have hr' := hr.put o.dst h2
        rw [hd] at hr'
        simp only [Oper.upon_value, hd]
        exact ih _ _ _ μ _ w hp hfuel' hr'
      · rw [if_pos (gd_sound hr (by rw [hgE]; exact hg))]
        have hopE : opR (tiOf P) tmE SE o.op = .enter f args := by
          refine opF_of ?_ (by first | exact .inl ⟨_, _, rfl⟩ | exact .inr ⟨_, _, rfl⟩)
          have h1 := opF_more hmore o.op (T := tiOf P) (tm := tmF) (by rw [hop]; trivial)
          rw [hoE, h1, hop]
        have hfn := hdet SE hmore
        obtain ⟨vs, h1, hl, hrep⟩ := enter_sound hr o hopE hfn.1
        refine .inl ?_
        unfold Oper.wp
        rw [h1]
        simp only [Oper.upon_enter]
        refine (hfn.2 ok μ w vs (fun b hb => hr.fr b (Nat.le_trans hr.md.size hb)) hr.rs hl hrep).mono ?_
        rintro e w' ⟨r, vv, S', mv', μ', rfl, ⟨rfl, rfl, rfl⟩, rs', hr', md, lv, ln, mu⟩
        have hp := hnext r _ hv rfl hpre.old (fun _ _ _ _ => rfl) (fun h => by rw [hbi] at h; cases h)
        have hT := (hr.hop [] rs' md lv ln mu).put o.dst hr'
        simp only [scT, List.nil_append] at hT
        rw [hd] at hT
        simp only [hd]
        exact ih _ _ _ μ' _ w' hp hfuel' hT
      · rw [if_pos (gd_sound hr (by rw [hgE]; exact hg))]
        have hopE : opF (tiOf P) tmE SE o.op = .new φ ob mk := by
          have h1 := opF_more hmore o.op (T := tiOf P) (tm := tmF) (by rw [hop]; trivial)
          rw [hoE, h1, hop]
        obtain ⟨s, hm, he⟩ := newF_sound hr o hopE hφ
        obtain ⟨r, w', hrun, md, hz, hsiz, hb, hrep⟩ := hm
        have hfree := hpre.free i hinp hbi hi1
        have hid : S0.length ≤ S0.length + c i := Nat.le_add_right _ _
        have hclean : ∀ (t : Nat) (x : AV), tmE[t]? = some x → x.clean [S0.length + c i] := by
          intro t x hx
          by_cases h : ∃ k, k < npre ∧ listed.getD k false = true ∧ dstOf ops k = some t
          · obtain ⟨k, hk, hl, hdk⟩ := h
            rw [hpre.done k t hk hl hdk] at hx
            obtain ⟨ok', dk, hok, hdk', hck⟩ := hcert k hk
            have e := hdst k ok' dk hk hok hdk'
            rw [hdk] at e
            cases e
            rcases hck with ⟨_, _, h⟩ | ⟨_, _, φ', v', _, _, h, hl'⟩ | ⟨_, _, f', args', v', _, _, h, hl'⟩ | ⟨hbk, _, φ', ob', mk', hop', _, h, _⟩ | ⟨hbk, _, f', args', r', ob', hop', _, hsm', h, _⟩
            · rw [hx] at h; cases h; exact .tup _ (by simp)
            · rw [hx] at h; cases h; exact hl' _ hid
            · rw [hx] at h; cases h; exact hl' _ hid
            · rw [hx] at h; cases h
              refine opF_new_mk hop' _ _ ?_
              intro e
              have := hci k i hk hinp hbk hbi (by omega)
              subst this
              rw [hi1] at hl; cases hl
            · rw [hx] at h; cases h
              refine at_clean hsm' _ _ ?_
              intro e
              have := hci k i hk hinp hbk hbi (by omega)
              subst this
              rw [hi1] at hl; cases hl
          · rw [hpre.todo t (fun k hk hl hdk => h ⟨k, hk, hl, hdk⟩)] at hx
            exact hlt0 t x hx _ hid
        have hcl : ∀ (j : Nat) (o : AObj), SE[j]? = some (some o) → ∀ x ∈ o.es, ∀ y ∈ x.cells, y.clean [S0.length + c i] := by
          intro j oj hj x hx y hy
          rcases Nat.lt_or_ge j S0.length with h | h
          · rw [hpre.old j h] at hj
            exact hltS j oj hj x hx y hy _ hid
          · have hjl := (List.getElem?_eq_some_iff.1 hj).1
            rw [hpre.slen] at hjl
            obtain ⟨k, hk, hbk, hck⟩ := hcs (j - S0.length) (by omega)
            have hjk : j = S0.length + c k := by omega
            subst hjk
            cases hlk' : listed.getD k false with
            | false => rw [hpre.free k hk hbk hlk'] at hj; cases hj
            | true =>
              rw [hpre.made k hk hbk hlk'] at hj
              obtain ⟨_, _, _, _, hcc⟩ := hcert k hk
              rcases hcc with ⟨h, _⟩ | ⟨h, _⟩ | ⟨h, _⟩ | ⟨_, _, φ', ob', mk', _, _, _, hNF, hobl'⟩ | ⟨_, _, f', args', r', ob', _, _, _, _, hNF, hobl'⟩
              · rw [hbk] at h; cases h
              · rw [hbk] at h; cases h
              · rw [hbk] at h; cases h
              · rw [hNF] at hj
                cases hj
                exact hobl' x hx y hy _ hid
              · rw [hNF] at hj
                cases hj
                exact hobl' x hx y hy _ hid
        have hnew := hr.newAt (S0.length + c i) hfree (Nat.le_trans hSc hid) ob md hclean hcl hz hsiz (fun x hx y hy => hobl x hx y hy _ hid) hb
        have hmk : Rep ok w' (fun j => if j = S0.length + c i then w.heap.size else μ j) (SE.set (S0.length + c i) (some ob)) (mk (S0.length + c i)) r := by
          exact hrep _ _ _ (by rw [List.length_set]; exact (List.getElem?_eq_some_iff.1 hfree).1) (by simp)
        refine .inl ?_
        unfold Oper.wp
        rw [he, hrun]
        simp only [Result.andThen_ok, Oper.upon_value]
        have hcl' : S0.length + c i < SE.length := (List.getElem?_eq_some_iff.1 hfree).1
        have hp := hnext (mk (S0.length + c i)) (SE.set (S0.length + c i) (some ob)) hv (by simp) (fun j hj => by rw [List.getElem?_set_ne (by omega)]; exact hpre.old j hj)
          (fun k hk hbk hne => by rw [List.getElem?_set_ne (fun e => hne (hci k i hk hinp hbk hbi (by omega)))]) (fun _ => by rw [List.getElem?_set_self hcl', hob])
        have hT := hnew.put o.dst hmk
        rw [hd] at hT
        simp only [hd]
        exact ih _ _ _ _ _ w' hp hfuel' hT
      · rw [if_pos (gd_sound hr (by rw [hgE]; exact hg))]
        have hopE : opR (tiOf P) tmE SE o.op = .enter f args := by
          refine opF_of ?_ (by first | exact .inl ⟨_, _, rfl⟩ | exact .inr ⟨_, _, rfl⟩)
          have h1 := opF_more hmore o.op (T := tiOf P) (tm := tmF) (by rw [hop]; trivial)
          rw [hoE, h1, hop]
        have hfn := hdet SE hmore
        obtain ⟨vs, h1, hl, hrep⟩ := enter_sound hr o hopE hfn.1
        refine .inl ?_
        unfold Oper.wp
        rw [h1]
        simp only [Oper.upon_enter]
        refine (hfn.2 ok μ w vs (fun b hb => hr.fr b (Nat.le_trans hr.md.size hb)) hr.rs hl hrep).mono ?_
        rintro e w' ⟨r, vv, S', mv', μ', rfl, ⟨rfl, rfl, rfl⟩, rs', hr', md, lv, ln, mu⟩
        have hfree := hpre.free i hinp hbi hi1
        have hid : S0.length ≤ S0.length + c i := Nat.le_add_right _ _
        have hse : S0.length ≤ SE.length := by rw [hpre.slen]; omega
        have hclean : ∀ (t : Nat) (x : AV), tmE[t]? = some x → x.clean [S0.length + c i] := by
          intro t x hx
          by_cases h : ∃ k, k < npre ∧ listed.getD k false = true ∧ dstOf ops k = some t
          · obtain ⟨k, hk, hl, hdk⟩ := h
            rw [hpre.done k t hk hl hdk] at hx
            obtain ⟨ok', dk, hok, hdk', hck⟩ := hcert k hk
            have e := hdst k ok' dk hk hok hdk'
            rw [hdk] at e
            cases e
            rcases hck with ⟨_, _, h⟩ | ⟨_, _, φ', v', _, _, h, hl'⟩ | ⟨_, _, f', args', v', _, _, h, hl'⟩ | ⟨hbk, _, φ', ob', mk', hop', _, h, _⟩ | ⟨hbk, _, f', args', r', ob', hop', _, hsm', h, _⟩
            · rw [hx] at h; cases h; exact .tup _ (by simp)
            · rw [hx] at h; cases h; exact hl' _ hid
            · rw [hx] at h; cases h; exact hl' _ hid
            · rw [hx] at h; cases h
              refine opF_new_mk hop' _ _ ?_
              intro e
              have := hci k i hk hinp hbk hbi (by omega)
              subst this
              rw [hi1] at hl; cases hl
            · rw [hx] at h; cases h
              refine at_clean hsm' _ _ ?_
              intro e
              have := hci k i hk hinp hbk hbi (by omega)
              subst this
              rw [hi1] at hl; cases hl
          · rw [hpre.todo t (fun k hk hl hdk => h ⟨k, hk, hl, hdk⟩)] at hx
            exact hlt0 t x hx _ hid
        have hcl : ∀ (j : Nat) (o : AObj), SE[j]? = some (some o) → ∀ x ∈ o.es, ∀ y ∈ x.cells, y.clean [S0.length + c i, SE.length] := by
          intro j oj hj x hx y hy
          rcases Nat.lt_or_ge j S0.length with h | h
          · rw [hpre.old j h] at hj
            exact clean2 (hltS j oj hj x hx y hy) _ _ hid hse
          · have hjl := (List.getElem?_eq_some_iff.1 hj).1
            rw [hpre.slen] at hjl
            obtain ⟨k, hk, hbk, hck⟩ := hcs (j - S0.length) (by omega)
            have hjk : j = S0.length + c k := by omega
            subst hjk
            cases hlk' : listed.getD k false with
            | false => rw [hpre.free k hk hbk hlk'] at hj; cases hj
            | true =>
              rw [hpre.made k hk hbk hlk'] at hj
              obtain ⟨_, _, _, _, hcc⟩ := hcert k hk
              rcases hcc with ⟨h, _⟩ | ⟨h, _⟩ | ⟨h, _⟩ | ⟨_, _, φ', ob', mk', _, _, _, hNF, hobl'⟩ | ⟨_, _, f', args', r', ob', _, _, _, _, hNF, hobl'⟩
              · rw [hbk] at h; cases h
              · rw [hbk] at h; cases h
              · rw [hbk] at h; cases h
              · rw [hNF] at hj
                cases hj
                exact clean2 (hobl' x hx y hy) _ _ hid hse
              · rw [hNF] at hj
                cases hj
                exact clean2 (hobl' x hx y hy) _ _ hid hse
        have hcl' : S0.length + c i < SE.length := (List.getElem?_eq_some_iff.1 hfree).1
        obtain ⟨hnew, hlive⟩ := hr.madeAt (S0.length + c i) hfree (Nat.le_trans hSc hid) ob rs' md lv (fun j hj => mu j hj rfl) hclean hcl (fun x hx y hy => clean2 (hobl x hx y hy) _ _ hid hse)
        have hmk : Rep ok w' (fun j => if j = S0.length + c i then μ' SE.length else μ' j) (SE.set (S0.length + c i) (some ob)) (r0.at (S0.length + c i)) vv :=
          Rep.at hlive (by rw [List.length_set]; exact hcl') (by simp) hsm hr'
        have hp := hnext (r0.at (S0.length + c i)) (SE.set (S0.length + c i) (some ob)) hv (by simp) (fun j hj => by rw [List.getElem?_set_ne (by omega)]; exact hpre.old j hj)
          (fun k hk hbk hne => by rw [List.getElem?_set_ne (fun e => hne (hci k i hk hinp hbk hbi (by omega)))]) (fun _ => by rw [List.getElem?_set_self hcl', hob])
        have hT := hnew.put o.dst hmk
        rw [hd] at hT
        simp only [hd]
        exact ih _ _ _ _ _ w' hp hfuel' hT
end
end
section
def AV.lt0 (n : Nat) : AV → Bool
  | .ref i _ _ _ => decide (i < n)
  | .own i _ _ _ => decide (i < n)
  | .agg _ => false
  | .tup _ => false
  | .clo _ _ => false
  | _ => true
def AV.lt1 (n : Nat) : AV → Bool
  | .agg xs => xs.all (AV.lt0 n)
  | .clo _ xs => xs.all (AV.lt0 n)
  | x => x.lt0 n
def AV.ltB (n : Nat) : AV → Bool
  | .tup xs => xs.all (AV.lt1 n)
  | x => x.lt1 n
theorem lt0_spec {n : Nat} {x : AV} (h : x.lt0 n = true) : x.lt n := by
  intro j hj
  cases x with
  | ref i z k sub => exact .ref _ _ _ _ (by simp [AV.lt0] at h; simp; omega)
  | own i z off len => exact .own _ _ _ _ (by simp [AV.lt0] at h; simp; omega)
  | agg => simp [AV.lt0] at h
  | tup => simp [AV.lt0] at h
  | clo => simp [AV.lt0] at h
  | prim v => exact .prim v
  | sl z xs => exact .sl z xs
  | ro xs => exact .ro xs
  | junk => exact .junk
  | any => exact .any
theorem lt1_spec {n : Nat} {x : AV} (h : x.lt1 n = true) : x.lt n := by
  cases x with
  | agg xs => exact fun j hj => .agg _ fun y hy => lt0_spec (by simp only [AV.lt1, List.all_eq_true] at h; exact h y hy) j hj
  | clo g xs => exact fun j hj => .clo _ _ fun y hy => lt0_spec (by simp only [AV.lt1, List.all_eq_true] at h; exact h y hy) j hj
  | _ => exact lt0_spec h
theorem ltB_spec {n : Nat} {x : AV} (h : x.ltB n = true) : x.lt n := by
  cases x with
  | tup xs => exact fun j hj => .tup _ fun y hy => lt1_spec (by simp only [AV.ltB, List.all_eq_true] at h; exact h y hy) j hj
  | _ => exact lt1_spec h
def afterPre (P : Program) (S0 : Store) (r : OpR) (d : Tmp) (tm : List AV) (N : List AObj) (K : List AV → List AObj → Prop) : Prop :=
  match r with
  | .val φ v => φ ∧ v.ltB S0.length = true ∧ K (tm.set d v) N
  | .new φ ob mk => φ ∧ (ob.es.all fun x => x.cells.all (AV.lt1 S0.length)) = true ∧ K (tm.set d (mk (S0.length + N.length))) (N ++ [ob])
  | .enter f args => (∃ v, Det P f args S0 v ∧ v.ltB S0.length = true ∧ K (tm.set d v) N) ∨
    ∃ r0 ob, DetO P f args S0 r0 ob ∧ r0.smp = true ∧ (ob.es.all fun x => x.cells.all (AV.lt1 S0.length)) = true ∧ K (tm.set d (r0.at (S0.length + N.length))) (N ++ [ob])
  | _ => False
def gPre (P : Program) (S0 : Store) (g : Option Bool) (op : Op) (d : Option Tmp) (tm : List AV) (N : List AObj) (K : List AV → List AObj → Prop) : Prop :=
  match g, d with
  | some true, some d => afterPre P S0 (opF (tiOf P) tm S0 op) d tm N K
  | some false, some d => K (tm.set d (.tup [])) N
  | _, _ => False
def preP (P : Program) (ops : Array Oper) (S0 : Store) : List Oper → List AV → List AObj → (List AV → List AObj → Prop) → Prop
  | [], tm, N, K => K tm N
  | o :: r, tm, N, K => gPre P S0 (gd ops tm o) o.op o.dst tm N (fun tm' N' => preP P ops S0 r tm' N' K)
section
variable {P : Program}
theorem preP_PE {ops : Array Oper} {S0 : Store} {K : List AV → List AObj → Prop} : ∀ (l : List Oper) (tm : List AV) (N : List AObj), preP P ops S0 l tm N K → ∃ tmF NF, PE P ops S0 l tm N tmF NF ∧ K tmF NF
  | [], tm, N, h => ⟨tm, N, .nil tm N, h⟩
  | o :: r, tm, N, h => by
    simp only [preP, gPre] at h
    split at h
    · rename_i d hg hd
      unfold afterPre at h
      split at h
      · rename_i φ v hr
        obtain ⟨h1, h2, h3⟩ := h
        obtain ⟨tmF, NF, hp, hk⟩ := preP_PE r _ _ h3
        exact ⟨tmF, NF, .val o d r tm tmF N NF φ v hd hg hr h1 (ltB_spec h2) hp, hk⟩
      · rename_i φ ob mk hr
        obtain ⟨h1, h2, h3⟩ := h
        obtain ⟨tmF, NF, hp, hk⟩ := preP_PE r _ _ h3
        refine ⟨tmF, NF, .new o d r tm tmF N NF φ ob mk hd hg hr h1 (fun x hx y hy => ?_) hp, hk⟩
        rw [List.all_eq_true] at h2
        have := h2 x hx
        rw [List.all_eq_true] at this
        exact lt1_spec (this y hy)
      · rename_i f args hr
        rcases h with ⟨v, h1, h2, h3⟩ | ⟨r0, ob, h1, h2, h2', h3⟩
        · obtain ⟨tmF, NF, hp, hk⟩ := preP_PE r _ _ h3
          exact ⟨tmF, NF, .call o d r tm tmF N NF f args v hd hg hr h1 (ltB_spec h2) hp, hk⟩
        · obtain ⟨tmF, NF, hp, hk⟩ := preP_PE r _ _ h3
          refine ⟨tmF, NF, .made o d r tm tmF N NF f args r0 ob hd hg hr h1 h2 (fun x hx y hy => ?_) hp, hk⟩
          rw [List.all_eq_true] at h2'
          have := h2' x hx
          rw [List.all_eq_true] at this
          exact lt1_spec (this y hy)
      · exact h.elim
    · rename_i d hg hd
      obtain ⟨tmF, NF, hp, hk⟩ := preP_PE r _ _ h
      exact ⟨tmF, NF, .skip o d r tm tmF N NF hd hg hp, hk⟩
    · exact h.elim
theorem RelT.drew {ok : Nat → Prop} {w0 : World} {μ0 : Nat → Nat} {Sc : Store} {st : St} {μ : Nat → Nat} {a : Act} {w : World} (h : RelT ok w0 μ0 Sc st μ a w) : RelT ok w0 μ0 Sc st μ a { w with drawn := w.drawn + 1 } := by
  have md := mod_drew w
  have hh : Hop w μ st.S w.drew μ st.S [] := ⟨fun ad u _ hc => hc, fun _ _ hl => hl, Nat.le_refl _, fun _ _ _ => rfl, md.shape⟩
  have rs : RelS ok w.drew μ st.S := ⟨fun i o hi hne => by
    obtain ⟨cs, ty, hb, hs, hc⟩ := h.rs.blk i o hi hne
    exact ⟨cs, ty, hb, hs, fun k x j y hk hj => by obtain ⟨v, hv, hr⟩ := hc k x j y hk hj; exact ⟨v, hv, hr.hop hh (AV.clean_nil y)⟩⟩, h.rs.siz, h.rs.inj⟩
  have := h.hop [] rs ⟨md.os, md.tape, md.output, md.size, fun b hb _ => md.keep b hb id, md.shape⟩ (fun _ _ hl => hl) (Nat.le_refl _) (fun _ _ _ => rfl)
  simpa [scT] using this
theorem awp_draw {id : Nat} {ops : Array Oper} {Q : Exit → St → Prop} {st : St} (npre : Nat) (hm : P.follows .mixedOrders = true) (hc : chkDraw ops npre = true)
    (hd : (ops.toList.all fun o => match o.dst with | none => true | some d => decide (d < st.tm.length)) = true)
    (h : preP P ops st.S (ops.toList.take npre) st.tm [] (fun tm N => opsP P ops (ops.toList.drop npre) ⟨tm, st.S ++ N.map some, st.mv⟩ (fun st' => Q .normal st'))) : AWP P (.region id ops true) Q st := by
  intro ok w0 μ0 Sc μ a w hr
  have hck := chk_spec hc
  obtain ⟨tmF, NF, hpe, hpost⟩ := preP_PE _ _ _ h
  have hnp := hck.le
  have htake : ∀ (k : Nat) (o : Oper), (ops.toList.take npre)[k]? = some o → k < npre ∧ ops[k]? = some o := by
    intro k o hk
    rw [List.getElem?_take] at hk
    split at hk
    · rename_i hlt; exact ⟨hlt, by simpa using hk⟩
    · cases hk
  have hlen : (ops.toList.take npre).length = npre := by rw [List.length_take, Array.length_toList]; omega
  rw [List.all_eq_true] at hd
  obtain ⟨c, b, h1, h2, h3, h4⟩ := hpe.cert (fun o ho d hdd => by
      have := hd o (List.mem_of_mem_take ho)
      rw [hdd] at this
      simpa using this)
    (fun k o hk t ht j o' hkj hj hdj => by
      obtain ⟨hkn, hko⟩ := htake k o hk
      obtain ⟨hjn, hjo⟩ := htake j o' hj
      obtain ⟨e, he, hej⟩ := hck.look k o hkn hko t ht j hjn (by simp [dstOf, hjo, hdj])
      have := (hck.back k o hko e he).2
      omega)
    (fun k j o o' hk hj hne e => by
      obtain ⟨hkn, hko⟩ := htake k o hk
      obtain ⟨hjn, hjo⟩ := htake j o' hj
      exact hck.uniq k o hkn hko j hjn (fun e' => hne e'.symm) (by simp [dstOf, hjo, e]))
  rw [hlen] at h2 h3 h4
  obtain ⟨htl, hag, M, hM⟩ := hpe.agree
  refine wp_region_any hm ?_
  have hr1 := hr.drew.room NF.length
  have hz : ∀ k, (Array.replicate ops.size false).getD k false = false := by
    intro k
    rw [Array.getD_eq_getD_getElem?]
    simp [Array.getElem?_replicate]
    split <;> rfl
  refine pre_any hck (S0 := st.S) (tm0 := st.tm) (tmF := tmF) (NF := NF) (c := c) (b := b) (mv := st.mv) ?_ (fun k hk hb => (h2 k hk hb).2) (fun k j hk hj hbk hbj e => h3 k j hk hj hbk hbj e) (fun s hs => h4 s (Nat.zero_le _) hs) ?_ htl
    (fun t x ht => (hr.tm t x ht).lt) ?_ hr.ln (Q := fun ex a' w' => ∃ st' μ', Q ex st' ∧ RelT ok w0 μ0 Sc st' μ' a' w') (K := fun st' => Q .normal st') (fun st μ a w hk hr => ⟨st, μ, hk, hr⟩) hpost ops.size (Array.replicate ops.size false) st.tm (st.S ++ List.replicate NF.length none) μ a _ ?_ ?_ hr1
  · intro k hk
    have hk' : (ops.toList.take npre)[k]? = some (ops[k]'(by omega)) := by rw [List.getElem?_take, if_pos hk]; simp [show k < ops.size by omega]
    obtain ⟨d, hcert⟩ := h1 k _ hk'
    exact ⟨ops[k]'(by omega), d, Array.getElem?_eq_getElem (by omega), hcert⟩
  · intro t ht
    refine hag t fun o ho e => ?_
    obtain ⟨k, hk, rfl⟩ := List.mem_iff_getElem.1 ho
    obtain ⟨hkn, hko⟩ := htake k _ (List.getElem?_eq_getElem hk)
    exact ht k hkn (by unfold dstOf; rw [hko]; exact e)
  · intro j o hj x hx y hy
    obtain ⟨k, hk, rfl⟩ := List.mem_iff_getElem.1 hx
    obtain ⟨i, hi, rfl⟩ := List.mem_iff_getElem.1 hy
    have hne : o.es ≠ [] := by intro e; simp [e] at hk
    obtain ⟨cs, ty, hb, hs, hcc⟩ := hr.rs.blk j o hj hne
    obtain ⟨v, hv, hrep⟩ := hcc k _ i _ (List.getElem?_eq_getElem hk) (List.getElem?_eq_getElem hi)
    exact hrep.lt
  · refine ⟨by simp, fun k _ hl => absurd ((hz k).symm.trans hl) (by simp), htl.symm, fun k d _ hl => absurd ((hz k).symm.trans hl) (by simp), fun t _ => rfl, by simp, fun i hi => List.getElem?_append_left hi, fun k _ _ hl => absurd ((hz k).symm.trans hl) (by simp), fun k hk hb _ => ?_⟩
    rw [List.getElem?_append_right (by omega), List.getElem?_replicate, if_pos (by have := (h2 k hk hb).2; omega)]
  · rw [count_range _ _ (fun _ => true) (fun k _ => by rw [hz]; rfl), List.filter_eq_self.2 (fun _ _ => rfl), List.length_range]
/-- A pure contract with one answer, for a drawn region. -/
theorem det_of_fn {f : FuncId} {args args' : List AV} {S0 : Store} {v : AV} (h : Fn P f args' (fun r S => r = v ∧ S = [])) (b : Bool) (ha : ∀ S : Store, (∀ i o, getO S0 i = some o → getO S i = some o) → All2 (Arg S b) args args')
    (hflat : b = true → v.flat = true) (hsh : ∀ n, v.sh n = v) : Det P f args S0 v := by
  intro S hS
  refine (h.frame (S := S) b (ha S hS) (fun hb r Sr hR => by obtain ⟨rfl, rfl⟩ := hR; exact ⟨hflat hb, by simp⟩)).mono ?_
  rintro r S' mv ⟨r0, Sr, ⟨rfl, rfl⟩, rfl, rfl, rfl⟩
  exact ⟨hsh _, by simp [shS], rfl⟩
/-- The same, in the order of the text. -/
theorem afn_of_fn {f : FuncId} {args args' : List AV} {S : Store} {R : AV → Prop} (h : Fn P f args' (fun r S => R r ∧ S = [])) (b : Bool) (ha : All2 (Arg S b) args args')
    (hflat : b = true → ∀ r, R r → r.flat = true) (hsh : ∀ n r, R r → r.sh n = r) : AFn P f args S (fun r S' mv => R r ∧ S' = S ∧ mv = []) := by
  refine (h.frame (S := S) b ha (fun hb r Sr hR => by obtain ⟨hr, rfl⟩ := hR; exact ⟨hflat hb r hr, by simp⟩)).mono ?_
  rintro r S' mv ⟨r0, Sr, ⟨hr, rfl⟩, rfl, rfl, rfl⟩
  rw [hsh _ _ hr]
  exact ⟨hr, by simp [shS], rfl⟩
end
end
section
abbrev I (n : Int) : AV := .prim (.int .i64 n)
abbrev Bo (b : Bool) : AV := .prim (.bool b)
abbrev nilS : AV := .prim (.slice none 0 0)
section
variable {P : Program}
theorem opsP_congr {ops : Array Oper} {l : List Oper} {st st' : St} {K : St → Prop} (h : st = st') : opsP P ops l st K = opsP P ops l st' K := by rw [h]
theorem codeP_congr {c : Code} {st st' : St} {K : Exit → St → Prop} (h : st = st') : codeP P c K st = codeP P c K st' := by rw [h]
theorem AWP_congr {c : Code} {st st' : St} {K : Exit → St → Prop} (h : st = st') : AWP P c K st = AWP P c K st' := by rw [h]
theorem afterR_congr {r r' : OpR} {d : Option Tmp} {st : St} {K : St → Prop} (h : r = r') : afterR P r d st K = afterR P r' d st K := by rw [h]
theorem preP_congr {ops : Array Oper} {S0 : Store} {l : List Oper} {tm tm' : List AV} {N N' : List AObj} {K : List AV → List AObj → Prop} (h : tm = tm') (h' : N = N') : preP P ops S0 l tm N K = preP P ops S0 l tm' N' K := by rw [h, h']
theorem afterPre_congr {S0 : Store} {r r' : OpR} {d : Tmp} {tm : List AV} {N : List AObj} {K : List AV → List AObj → Prop} (h : r = r') : afterPre P S0 r d tm N K = afterPre P S0 r' d tm N K := by rw [h]
theorem gPre_congr {S0 : Store} {g g' : Option Bool} {op : Op} {d : Option Tmp} {tm : List AV} {N : List AObj} {K : List AV → List AObj → Prop} (h : g = g') : gPre P S0 g op d tm N K = gPre P S0 g' op d tm N K := by rw [h]
def gOps (P : Program) (ops : Array Oper) (g : Option Bool) (d : Option Tmp) (op : Op) (r : List Oper) (st : St) (K : St → Prop) : Prop :=
  match g with
  | none => False
  | some true => afterR P (opR (tiOf P) st.tm st.S op) d st (fun st' => opsP P ops r st' K)
  | some false => opsP P ops r (st.put d (.tup [])) K
theorem gOps_congr {ops : Array Oper} {g g' : Option Bool} {d : Option Tmp} {op : Op} {r : List Oper} {st : St} {K : St → Prop} (h : g = g') : gOps P ops g d op r st K = gOps P ops g' d op r st K := by rw [h]
def condP (P : Program) (v : AV) (x y : Code) (Q : Exit → St → Prop) (st : St) : Prop :=
  match v with
  | .prim (.bool true) => codeP P x Q st
  | .prim (.bool false) => codeP P y Q st
  | _ => False
theorem condP_congr {v v' : AV} {x y : Code} {st : St} {Q : Exit → St → Prop} (h : v = v') : condP P v x y Q st = condP P v' x y Q st := by rw [h]
def thenP (K : St → Prop) (Q : Exit → St → Prop) : Exit → St → Prop := fun ex s => match ex with | .normal => K s | e => Q e s
@[go_sem] theorem thenP_normal {K : St → Prop} {Q : Exit → St → Prop} {s : St} : thenP K Q .normal s = K s := rfl
@[go_sem] theorem thenP_ret {K : St → Prop} {Q : Exit → St → Prop} {s : St} : thenP K Q .ret s = Q .ret s := rfl
@[go_sem] theorem thenP_exit {K : St → Prop} {Q : Exit → St → Prop} {s : St} {id : Nat} : thenP K Q (.exit id) s = Q (.exit id) s := rfl
@[go_sem] theorem inBlk_normal {id : Nat} {Q : Exit → St → Prop} {s : St} : inBlk id Q .normal s = Q .normal s := rfl
@[go_sem] theorem inBlk_ret {id : Nat} {Q : Exit → St → Prop} {s : St} : inBlk id Q .ret s = Q .ret s := rfl
@[go_sem] theorem inBlk_exit {id id' : Nat} {Q : Exit → St → Prop} {s : St} : inBlk id Q (.exit id') s = if id' = id then Q .normal s else Q (.exit id') s := rfl
@[go_sem] theorem codeP_seq {x y : Code} {Q : Exit → St → Prop} {st : St} : codeP P (.seq x y) Q st = codeP P x (thenP (fun s => codeP P y Q s) Q) st := rfl
@[go_sem] theorem codeP_region {id : Nat} {ops : List Oper} {Q : Exit → St → Prop} {st : St} : codeP P (.region id ops.toArray false) Q st = opsP P ops.toArray ops st (fun st' => Q .normal st') := rfl
@[go_sem] theorem codeP_ret {Q : Exit → St → Prop} {st : St} : codeP P .ret Q st = Q .ret st := rfl
@[go_sem] theorem codeP_skip {Q : Exit → St → Prop} {st : St} : codeP P .skip Q st = Q .normal st := rfl
@[go_sem] theorem codeP_exit {id : Nat} {Q : Exit → St → Prop} {st : St} : codeP P (.exit id) Q st = Q (.exit id) st := rfl
@[go_sem] theorem codeP_block {id : Nat} {c : Code} {Q : Exit → St → Prop} {st : St} : codeP P (.block id c) Q st = codeP P c (inBlk id Q) st := rfl
@[go_sem] theorem codeP_cond {c : Operand} {x y : Code} {Q : Exit → St → Prop} {tm : List AV} {S : Store} {mv : List Nat} : codeP P (.cond c x y) Q ⟨tm, S, mv⟩ = condP P (ev tm c) x y Q ⟨tm, S, mv⟩ := rfl
@[go_sem] theorem condP_true {x y : Code} {Q : Exit → St → Prop} {st : St} : condP P (.prim (.bool true)) x y Q st = codeP P x Q st := rfl
@[go_sem] theorem condP_false {x y : Code} {Q : Exit → St → Prop} {st : St} : condP P (.prim (.bool false)) x y Q st = codeP P y Q st := rfl
theorem cds {b : Bool} {x y : Code} {Q : Exit → St → Prop} {st : St} (h1 : b = true → codeP P x Q st) (h2 : b = false → codeP P y Q st) : condP P (.prim (.bool b)) x y Q st := by
  cases b
  · exact h2 rfl
  · exact h1 rfl
@[go_sem] theorem opsP_nil {ops : Array Oper} {st : St} {K : St → Prop} : opsP P ops [] st K = K st := rfl
@[go_sem] theorem opsP_cons {ops : Array Oper} {d : Option Tmp} {op : Op} {ty : TypeId} {ps : String} {af : Array Edge} {r : List Oper} {tm : List AV} {S : Store} {mv : List Nat} {K : St → Prop} :
    opsP P ops (⟨d, op, ty, ps, af, none⟩ :: r) ⟨tm, S, mv⟩ K = afterR P (opR (tiOf P) tm S op) d ⟨tm, S, mv⟩ (fun st' => opsP P ops r st' K) := rfl
def gdV (v : Option AV) (wn : Bool) : Option Bool :=
  match v with
  | some (.prim (.bool b)) => some (b == wn)
  | some (.tup []) => some false
  | _ => none
def gdJ (o : Option Oper) (tm : List AV) (wn : Bool) : Option Bool := match o.bind (·.dst) with | some t => gdV (tm[t]?) wn | none => none
@[go_sem] theorem opsP_consg {ops : Array Oper} {d : Option Tmp} {op : Op} {ty : TypeId} {ps : String} {af : Array Edge} {j : Nat} {wn : Bool} {r : List Oper} {tm : List AV} {S : Store} {mv : List Nat} {K : St → Prop} :
    opsP P ops (⟨d, op, ty, ps, af, some (j, wn)⟩ :: r) ⟨tm, S, mv⟩ K = gOps P ops (gdJ ops[j]? tm wn) d op r ⟨tm, S, mv⟩ K := by
  simp only [opsP, gOps, stepP]
  rfl
@[go_sem] theorem gdJ_some {d : Tmp} {op : Op} {ty : TypeId} {ps : String} {af : Array Edge} {g : Option (Nat × Bool)} {tm : List AV} {wn : Bool} : gdJ (some ⟨some d, op, ty, ps, af, g⟩) tm wn = gdV (tm[d]?) wn := rfl
@[go_sem] theorem gdV_bool {b wn : Bool} : gdV (some (.prim (.bool b))) wn = some (b == wn) := rfl
@[go_sem] theorem gdV_tup {wn : Bool} : gdV (some (.tup [])) wn = some false := rfl
@[go_sem] theorem gOps_t {ops : Array Oper} {d : Option Tmp} {op : Op} {r : List Oper} {tm : List AV} {S : Store} {mv : List Nat} {K : St → Prop} :
    gOps P ops (some true) d op r ⟨tm, S, mv⟩ K = afterR P (opR (tiOf P) tm S op) d ⟨tm, S, mv⟩ (fun st' => opsP P ops r st' K) := rfl
@[go_sem] theorem gOps_f {ops : Array Oper} {d : Tmp} {op : Op} {r : List Oper} {tm : List AV} {S : Store} {mv : List Nat} {K : St → Prop} :
    gOps P ops (some false) (some d) op r ⟨tm, S, mv⟩ K = opsP P ops r ⟨tm.set d (.tup []), S, mv⟩ K := rfl
@[go_sem] theorem gOps_fn {ops : Array Oper} {op : Op} {r : List Oper} {st : St} {K : St → Prop} : gOps P ops (some false) none op r st K = opsP P ops r st K := rfl
theorem gos {ops : Array Oper} {b : Bool} {d : Option Tmp} {op : Op} {r : List Oper} {st : St} {K : St → Prop} (h1 : b = true → gOps P ops (some true) d op r st K) (h2 : b = false → gOps P ops (some false) d op r st K) : gOps P ops (some b) d op r st K := by
  cases b
  · exact h2 rfl
  · exact h1 rfl
theorem gon {ops : Array Oper} {b : Bool} {d : Option Tmp} {op : Op} {r : List Oper} {st : St} {K : St → Prop} (h1 : b = false → gOps P ops (some true) d op r st K) (h2 : b = true → gOps P ops (some false) d op r st K) : gOps P ops (some (!b)) d op r st K := by
  cases b
  · exact h1 rfl
  · exact h2 rfl
theorem cdn {b : Bool} {x y : Code} {Q : Exit → St → Prop} {st : St} (h1 : b = false → codeP P x Q st) (h2 : b = true → codeP P y Q st) : condP P (.prim (.bool (!b))) x y Q st := by
  cases b
  · exact h1 rfl
  · exact h2 rfl
@[go_sem] theorem beq_tt : (true == true) = true := rfl
@[go_sem] theorem beq_tf : (true == false) = false := rfl
@[go_sem] theorem beq_ft : (false == true) = false := rfl
@[go_sem] theorem beq_ff : (false == false) = true := rfl
theorem dt {p : Prop} [Decidable p] : (decide p = true) = p := decide_eq_true_eq
theorem df {p : Prop} [Decidable p] : (decide p = false) ↔ ¬ p := decide_eq_false_iff_not
theorem gi {a b : Int} : (a ≥ b) = (b ≤ a) := rfl
theorem gt {a b : Int} : (a > b) = (b < a) := rfl
theorem beq_true' (b : Bool) : (b == true) = b := by cases b <;> rfl
theorem beq_false' (b : Bool) : (b == false) = !b := by cases b <;> rfl
@[go_sem] theorem preP_nil {ops : Array Oper} {S0 : Store} {tm : List AV} {N : List AObj} {K : List AV → List AObj → Prop} : preP P ops S0 [] tm N K = K tm N := rfl
@[go_sem] theorem preP_cons {ops : Array Oper} {S0 : Store} {d : Tmp} {op : Op} {ty : TypeId} {ps : String} {af : Array Edge} {r : List Oper} {x : AV} {tm : List AV} {N : List AObj} {K : List AV → List AObj → Prop} :
    preP P ops S0 (⟨some d, op, ty, ps, af, none⟩ :: r) (x :: tm) N K = afterPre P S0 (opF (tiOf P) (x :: tm) S0 op) d (x :: tm) N (fun tm' N' => preP P ops S0 r tm' N' K) := rfl
@[go_sem] theorem preP_consg {ops : Array Oper} {S0 : Store} {d : Option Tmp} {op : Op} {ty : TypeId} {ps : String} {af : Array Edge} {j : Nat} {wn : Bool} {r : List Oper} {x : AV} {tm : List AV} {N : List AObj} {K : List AV → List AObj → Prop} :
    preP P ops S0 (⟨d, op, ty, ps, af, some (j, wn)⟩ :: r) (x :: tm) N K = gPre P S0 (gdJ ops[j]? (x :: tm) wn) op d (x :: tm) N (fun tm' N' => preP P ops S0 r tm' N' K) := rfl
@[go_sem] theorem gPre_t {S0 : Store} {op : Op} {d : Tmp} {tm : List AV} {N : List AObj} {K : List AV → List AObj → Prop} : gPre P S0 (some true) op (some d) tm N K = afterPre P S0 (opF (tiOf P) tm S0 op) d tm N K := rfl
@[go_sem] theorem gPre_f {S0 : Store} {op : Op} {d : Tmp} {tm : List AV} {N : List AObj} {K : List AV → List AObj → Prop} : gPre P S0 (some false) op (some d) tm N K = K (tm.set d (.tup [])) N := rfl
theorem gps {S0 : Store} {b : Bool} {op : Op} {d : Option Tmp} {tm : List AV} {N : List AObj} {K : List AV → List AObj → Prop} (h1 : b = true → gPre P S0 (some true) op d tm N K) (h2 : b = false → gPre P S0 (some false) op d tm N K) : gPre P S0 (some b) op d tm N K := by
  cases b
  · exact h2 rfl
  · exact h1 rfl
@[go_sem] theorem afterPre_val {S0 : Store} {φ : Prop} {v : AV} {d : Tmp} {tm : List AV} {N : List AObj} {K : List AV → List AObj → Prop} : afterPre P S0 (.val φ v) d tm N K = (φ ∧ v.ltB S0.length = true ∧ K (tm.set d v) N) := rfl
@[go_sem] theorem afterPre_new {S0 : Store} {φ : Prop} {ob : AObj} {mk : Nat → AV} {d : Tmp} {tm : List AV} {N : List AObj} {K : List AV → List AObj → Prop} :
    afterPre P S0 (.new φ ob mk) d tm N K = (φ ∧ (ob.es.all fun x => x.cells.all (AV.lt1 S0.length)) = true ∧ K (tm.set d (mk (S0.length + N.length))) (N ++ [ob])) := rfl
theorem pre_enter {S0 : Store} {f : FuncId} {args : List AV} {d : Tmp} {tm : List AV} {N : List AObj} {K : List AV → List AObj → Prop} (v : AV) (h1 : Det P f args S0 v) (h2 : v.ltB S0.length = true) (h3 : K (tm.set d v) N) : afterPre P S0 (.enter f args) d tm N K := .inl ⟨v, h1, h2, h3⟩
attribute [go_sem] AV.ltB AV.lt1 AV.lt0
theorem gpn {S0 : Store} {b : Bool} {op : Op} {d : Option Tmp} {tm : List AV} {N : List AObj} {K : List AV → List AObj → Prop} (h1 : b = false → gPre P S0 (some true) op d tm N K) (h2 : b = true → gPre P S0 (some false) op d tm N K) : gPre P S0 (some (!b)) op d tm N K := by
  cases b
  · exact h1 rfl
  · exact h2 rfl
@[go_sem] theorem afterR_valT {d : Tmp} {v : AV} {tm : List AV} {S : Store} {mv : List Nat} {K : St → Prop} : afterR P (.val True v) (some d) ⟨tm, S, mv⟩ K = K ⟨tm.set d v, S, mv⟩ := by simp [afterR, St.put]
@[go_sem] theorem afterR_val {d : Tmp} {φ : Prop} {v : AV} {tm : List AV} {S : Store} {mv : List Nat} {K : St → Prop} : afterR P (.val φ v) (some d) ⟨tm, S, mv⟩ K = (φ ∧ K ⟨tm.set d v, S, mv⟩) := rfl
@[go_sem] theorem afterR_valN {φ : Prop} {v : AV} {st : St} {K : St → Prop} : afterR P (.val φ v) none st K = (φ ∧ K st) := rfl
@[go_sem] theorem afterR_new {d : Tmp} {φ : Prop} {ob : AObj} {mk : Nat → AV} {tm : List AV} {S : Store} {mv : List Nat} {K : St → Prop} : afterR P (.new φ ob mk) (some d) ⟨tm, S, mv⟩ K = (φ ∧ K ⟨tm.set d (mk S.length), S ++ [some ob], mv⟩) := rfl
@[go_sem] theorem afterR_set {φ : Prop} {i : Nat} {ob : AObj} {tm : List AV} {S : Store} {mv : List Nat} {K : St → Prop} : afterR P (.set φ i ob) none ⟨tm, S, mv⟩ K = (φ ∧ K ⟨tm, S.set i (some ob), mv⟩) := rfl
@[go_sem] theorem afterR_app {d : Tmp} {φ : Prop} {i : Nat} {ob : AObj} {v : AV} {tm : List AV} {S : Store} {mv : List Nat} {K : St → Prop} :
    afterR P (.app φ i ob v) (some d) ⟨tm, S, mv⟩ K = (φ ∧ K ⟨(tm.map (AV.sc [i])).set d v, (S.map (Option.map fun o => ⟨o.z, o.es.map (AV.sc1 [i])⟩)).set i (some ob), i :: mv⟩) := rfl
theorem enter_any {f : FuncId} {args : List AV} {d : Option Tmp} {st : St} {K : St → Prop} {Q : AV → Store → List Nat → Prop} (h : AFn P f args st.S Q) (hk : ∀ r S' mv, Q r S' mv → K (St.put ⟨scT mv st.tm, S', mv ++ st.mv⟩ d r)) : afterR P (.enter f args) d st K := ⟨Q, h, hk⟩
/-- Data: no mark of an object. -/
def AV.pu : AV → Bool
  | .agg xs => xs.all AV.pur0
  | .clo _ xs => xs.all AV.pur0
  | x => x.pur0
theorem arg_of_pu {S : Store} {b : Bool} {x : AV} (h : x.pu = true) : Arg S b x x := by
  have l0 : ∀ xs : List AV, xs.all AV.pur0 = true → All2 (Arg0 S b) xs xs := by
    intro xs
    induction xs with
    | nil => intro _; exact .nil
    | cons y ys ih => intro h; simp only [List.all_cons, Bool.and_eq_true] at h; exact .cons _ _ _ _ (.same y h.1) (ih h.2)
  have l1 : ∀ xs : List AV, xs.all AV.pur0 = true → All2 (Arg1 S b) xs xs := by
    intro xs
    induction xs with
    | nil => intro _; exact .nil
    | cons y ys ih => intro h; simp only [List.all_cons, Bool.and_eq_true] at h; exact .cons _ _ _ _ (.of0 _ _ (.same y h.1)) (ih h.2)
  cases x with
  | agg xs => exact .agg _ _ (l0 xs h)
  | clo g xs => exact .clo _ _ _ (l1 xs h)
  | _ => exact .of1 _ _ (.of0 _ _ (.same _ h))
theorem args_of_pu {S : Store} {b : Bool} : ∀ {xs : List AV}, xs.all AV.pu = true → All2 (Arg S b) xs xs
  | [], _ => .nil
  | x :: xs, h => by simp only [List.all_cons, Bool.and_eq_true] at h; exact .cons _ _ _ _ (arg_of_pu h.1) (args_of_pu h.2)
/-- Does shifting marks leave a value as it is? -/
def AV.sf0 : AV → Bool
  | .ref _ _ _ _ => false
  | .own _ _ _ _ => false
  | .clo _ _ => false
  | .agg _ => false
  | .tup _ => false
  | _ => true
def AV.sf1 : AV → Bool
  | .agg xs => xs.all AV.sf0
  | x => x.sf0
def AV.sf : AV → Bool
  | .tup xs => xs.all AV.sf1
  | x => x.sf1
theorem sf0_spec {n : Nat} {x : AV} (h : x.sf0 = true) : x.sh0 n = x := by cases x <;> simp_all [AV.sf0, AV.sh0]
theorem sf1_spec {n : Nat} {x : AV} (h : x.sf1 = true) : x.sh1 n = x := by
  cases x with
  | agg xs =>
    simp only [AV.sf1, List.all_eq_true] at h
    simp only [AV.sh1, AV.agg.injEq]
    exact (List.map_congr_left fun y hy => sf0_spec (h y hy)).trans (List.map_id _)
  | tup xs => simp [AV.sf1, AV.sf0] at h
  | _ => simp_all [AV.sf1, AV.sf0, AV.sh1, AV.sh0]
theorem sf_spec {n : Nat} {x : AV} (h : x.sf = true) : x.sh n = x := by
  cases x with
  | tup xs =>
    simp only [AV.sf, List.all_eq_true] at h
    simp only [AV.sh, AV.tup.injEq]
    exact (List.map_congr_left fun y hy => sf1_spec (h y hy)).trans (List.map_id _)
  | agg xs => exact sf1_spec (x := .agg xs) h
  | clo g xs => simp [AV.sf, AV.sf1, AV.sf0] at h
  | ref i z k s => simp [AV.sf, AV.sf1, AV.sf0] at h
  | own i z k s => simp [AV.sf, AV.sf1, AV.sf0] at h
  | _ => simp_all [AV.sf1, AV.sf0, AV.sh1, AV.sh0, AV.sh, AV.sf]
/-- A function of data with one answer. -/
def Fn1 (P : Program) (f : FuncId) (args : List AV) (v : AV) : Prop := Fn P f args (fun r S => r = v ∧ S = [])
/-- A call, its arguments data. -/
theorem enter_pu {f : FuncId} {args : List AV} {v : AV} {d : Tmp} {tm : List AV} {S : Store} {mv : List Nat} {K : St → Prop} (h : Fn1 P f args v) (hp : args.all AV.pu = true) (hs : v.sf = true) (hk : K ⟨tm.set d v, S, mv⟩) :
    afterR P (.enter f args) (some d) ⟨tm, S, mv⟩ K := by
  refine enter_any (afn_of_fn (R := fun r => r = v) h false (args_of_pu hp) (fun h => by cases h) (fun n r hr => by rw [hr]; exact sf_spec hs)) ?_
  rintro r S' mv' ⟨rfl, rfl, rfl⟩
  exact hk
/-- A call, its arguments read off objects. -/
theorem enter_own {f : FuncId} {args args' : List AV} {v : AV} {d : Tmp} {tm : List AV} {S : Store} {mv : List Nat} {K : St → Prop} (h : Fn1 P f args' v) (ha : All2 (Arg S true) args args') (hf : v.flat = true) (hs : v.sf = true) (hk : K ⟨tm.set d v, S, mv⟩) :
    afterR P (.enter f args) (some d) ⟨tm, S, mv⟩ K := by
  refine enter_any (afn_of_fn (R := fun r => r = v) h true ha (fun _ r hr => by rw [hr]; exact hf) (fun n r hr => by rw [hr]; exact sf_spec hs)) ?_
  rintro r S' mv' ⟨rfl, rfl, rfl⟩
  exact hk
theorem det_pu {f : FuncId} {args : List AV} {S0 : Store} {v : AV} (h : Fn1 P f args v) (hp : args.all AV.pu = true) (hs : v.sf = true) : Det P f args S0 v :=
  det_of_fn h false (fun S _ => args_of_pu hp) (fun h => by cases h) (fun n => sf_spec hs)
section
variable {T : TypeId → Option TI} {tm : List AV} {S : Store}
@[go_sem] theorem opF_move {x : Operand} : opF T tm S (.move x) = opR T tm S (.move x) := rfl
@[go_sem] theorem opF_assign {x : Operand} : opF T tm S (.assign x) = opR T tm S (.assign x) := rfl
@[go_sem] theorem opF_pick {c x y : Operand} : opF T tm S (.pick c x y) = opR T tm S (.pick c x y) := rfl
@[go_sem] theorem opF_load {t : TypeId} {x : Operand} : opF T tm S (.load t x) = opR T tm S (.load t x) := rfl
@[go_sem] theorem opF_store {t : TypeId} {x v : Operand} : opF T tm S (.store t x v) = opR T tm S (.store t x v) := rfl
@[go_sem] theorem opF_field {t : TypeId} {x : Operand} {f : Nat} : opF T tm S (.fieldAddr t x f) = opR T tm S (.fieldAddr t x f) := rfl
@[go_sem] theorem opF_index {t : TypeId} {x ix : Operand} : opF T tm S (.indexAddr t x ix) = opR T tm S (.indexAddr t x ix) := rfl
@[go_sem] theorem opF_bin {op : BinOp} {t t' : TypeId} {x y : Operand} : opF T tm S (.binOp op t x y t') = opR T tm S (.binOp op t x y t') := rfl
@[go_sem] theorem opF_un {op : UnOp} {t : TypeId} {x : Operand} : opF T tm S (.unOp op t x) = opR T tm S (.unOp op t x) := rfl
@[go_sem] theorem opF_nilCheck {x : Operand} : opF T tm S (.nilCheck x) = opR T tm S (.nilCheck x) := rfl
@[go_sem] theorem opF_extract {x : Operand} {i : Nat} : opF T tm S (.extract x i) = opR T tm S (.extract x i) := rfl
@[go_sem] theorem opF_makeFunc {f : Go.Fn} {a b : Array Operand} : opF T tm S (.makeFunc f a b) = opR T tm S (.makeFunc f a b) := rfl
@[go_sem] theorem opF_slice {t : TypeId} {x : Operand} {lo hi mx : Option Operand} : opF T tm S (.slice t x lo hi mx) = opR T tm S (.slice t x lo hi mx) := rfl
@[go_sem] theorem opF_convert {s d : TypeId} {x : Operand} : opF T tm S (.convert s d x) = opR T tm S (.convert s d x) := rfl
@[go_sem] theorem opF_alloc {t : TypeId} : opF T tm S (.alloc t) = opR T tm S (.alloc t) := rfl
@[go_sem] theorem opF_box {t : TypeId} {x : Operand} : opF T tm S (.box t x) = opR T tm S (.box t x) := rfl
@[go_sem] theorem opF_makeSlice {t : TypeId} {l c : Operand} : opF T tm S (.makeSlice t l c) = opR T tm S (.makeSlice t l c) := rfl
@[go_sem] theorem opF_buildSlice {t : TypeId} {len : Nat} {parts : Array (Nat × Operand)} : opF T tm S (.buildSlice t len parts) = opR T tm S (.buildSlice t len parts) := rfl
@[go_sem] theorem opF_build {t : TypeId} {parts : Array (Nat × Operand)} : opF T tm S (.build t parts) = opR T tm S (.build t parts) := rfl
@[go_sem] theorem opF_callV {f : Operand} {args : Array Operand} {ats : Array TypeId} : opF T tm S (.call ⟨.value f, args, ats⟩) = opR T tm S (.call ⟨.value f, args, ats⟩) := rfl
@[go_sem] theorem opF_len {args : Array Operand} {ats : Array TypeId} : opF T tm S (.call ⟨.builtin .len, args, ats⟩) = opR T tm S (.call ⟨.builtin .len, args, ats⟩) := rfl
@[go_sem] theorem opF_max {args : Array Operand} {ats : Array TypeId} : opF T tm S (.call ⟨.builtin .max, args, ats⟩) = opR T tm S (.call ⟨.builtin .max, args, ats⟩) := rfl
@[go_sem] theorem opF_min {args : Array Operand} {ats : Array TypeId} : opF T tm S (.call ⟨.builtin .min, args, ats⟩) = opR T tm S (.call ⟨.builtin .min, args, ats⟩) := rfl
@[go_sem] theorem opF_copy {args : Array Operand} {ats : Array TypeId} : opF T tm S (.call ⟨.builtin .copy, args, ats⟩) = opR T tm S (.call ⟨.builtin .copy, args, ats⟩) := rfl
def appF (T : TypeId → Option TI) (S : Store) (t : TypeId) (x y : AV) : OpR := match x with
  | .own _ _ _ 0 => appendR T S t (.prim (.slice none 0 0)) y
  | x => appendR T S t x y
@[go_sem] theorem appF_own0 {t : TypeId} {i z off : Nat} {y : AV} : appF T S t (.own i z off 0) y = appendR T S t (.prim (.slice none 0 0)) y := rfl
@[go_sem] theorem appF_prim {t : TypeId} {v : Value} {y : AV} : appF T S t (.prim v) y = appendR T S t (.prim v) y := rfl
@[go_sem] theorem opR_move {x : Operand} : opR T tm S (.move x) = .val True (ev tm x) := rfl
@[go_sem] theorem opR_assign {x : Operand} : opR T tm S (.assign x) = .val True (ev tm x) := rfl
def pickR (c x y : AV) : OpR := match c with | .prim (.bool b) => .val True (bif b then x else y) | _ => .stuck
@[go_sem] theorem opR_pick {c x y : Operand} : opR T tm S (.pick c x y) = pickR (ev tm c) (ev tm x) (ev tm y) := rfl
@[go_sem] theorem pickR_t {x y : AV} : pickR (.prim (.bool true)) x y = .val True x := rfl
@[go_sem] theorem pickR_f {x y : AV} : pickR (.prim (.bool false)) x y = .val True y := rfl
@[go_sem] theorem pickR_and {b c : Bool} : pickR (.prim (.bool b)) (.prim (.bool c)) (.prim (.bool false)) = .val True (.prim (.bool (b && c))) := by cases b <;> rfl
@[go_sem] theorem pickR_or {b c : Bool} : pickR (.prim (.bool b)) (.prim (.bool true)) (.prim (.bool c)) = .val True (.prim (.bool (b || c))) := by cases b <;> rfl
@[go_sem] theorem opR_load {t : TypeId} {x : Operand} : opR T tm S (.load t x) = onT T t fun ti => loadR ti S (ev tm x) := rfl
@[go_sem] theorem opR_store {t : TypeId} {x v : Operand} : opR T tm S (.store t x v) = onT T t fun ti => storeR ti S (ev tm v) (ev tm x) := rfl
@[go_sem] theorem opR_field {t : TypeId} {x : Operand} {f : Nat} : opR T tm S (.fieldAddr t x f) = onT T t fun ti => fieldR ti f (ev tm x) := rfl
@[go_sem] theorem opR_index {t : TypeId} {x ix : Operand} : opR T tm S (.indexAddr t x ix) = onT T t fun ti => indexR T ti (ev tm x) (ev tm ix) := rfl
@[go_sem] theorem opR_bin {op : BinOp} {t t' : TypeId} {x y : Operand} : opR T tm S (.binOp op t x y t') = binT op (T t) (ev tm x) (ev tm y) := rfl
def unR (op : UnOp) (x : AV) : OpR := match op, x with
    | .not, .prim (.bool b) => .val True (.prim (.bool (!b)))
    | .neg, .prim (.int k n) => .val True (.prim (.int k (k.wrap (-n))))
    | _, _ => .stuck
@[go_sem] theorem opR_un {op : UnOp} {t : TypeId} {x : Operand} : opR T tm S (.unOp op t x) = unR op (ev tm x) := rfl
@[go_sem] theorem unR_not {b : Bool} : unR .not (.prim (.bool b)) = .val True (.prim (.bool (!b))) := rfl
def nilR (x : AV) : OpR := match x with | .ref i z k s => .val True (.ref i z k s) | .ro xs => .val True (.ro xs) | _ => .stuck
@[go_sem] theorem opR_nilCheck {x : Operand} : opR T tm S (.nilCheck x) = nilR (ev tm x) := rfl
@[go_sem] theorem nilR_ref {i z k s : Nat} : nilR (.ref i z k s) = .val True (.ref i z k s) := rfl
@[go_sem] theorem nilR_ro {xs : List D} : nilR (.ro xs) = .val True (.ro xs) := rfl
def exR (x : AV) (i : Nat) : OpR := match x with | .tup xs => .val (i < xs.length) (xs.getD i .any) | _ => .stuck
@[go_sem] theorem opR_extract {x : Operand} {i : Nat} : opR T tm S (.extract x i) = exR (ev tm x) i := rfl
@[go_sem] theorem exR_tup {xs : List AV} {i : Nat} : exR (.tup xs) i = .val (i < xs.length) (xs.getD i .any) := rfl
@[go_sem] theorem opR_makeFunc {g : FuncId} {caps : List Operand} : opR T tm S (.makeFunc (.func g) #[] caps.toArray) = .val True (.clo g (caps.map (ev tm))) := rfl
@[go_sem] theorem opR_slice {t : TypeId} {x : Operand} {lo hi : Option Operand} : opR T tm S (.slice t x lo hi none) = onT T t fun ti => sliceR T tm ti (ev tm x) lo hi none := by simp only [opR]
def slice3R (T : TypeId → Option TI) (tm : List AV) (t : TypeId) (lo hi : Option Operand) (m : Operand) (x : AV) : OpR := match x with
  | .sl z xs => cutR T tm t z lo hi m
  | x => onT T t fun ti => sliceR T tm ti x lo hi (some m)
@[go_sem] theorem opR_slice3 {t : TypeId} {x m : Operand} {lo hi : Option Operand} : opR T tm S (.slice t x lo hi (some m)) = slice3R T tm t lo hi m (ev tm x) := by
  simp only [opR, slice3R]
  split <;> simp_all
@[go_sem] theorem slice3R_own {t : TypeId} {m : Operand} {lo hi : Option Operand} {i z off len : Nat} : slice3R T tm t lo hi m (.own i z off len) = onT T t fun ti => sliceR T tm ti (.own i z off len) lo hi (some m) := rfl
def cut2 (te : Option TI) (z : Nat) (h m : AV) : OpR := match te with
  | some te => match h, m with
    | .prim (.int _ h), .prim (.int _ mm) => .new (h = 0 ∧ mm = 0 ∧ te.zs.length = z) ⟨te.zs.length, []⟩ (fun i => .own i te.zs.length 0 0)
    | _, _ => .stuck
  | none => .stuck
def cut1 (T : TypeId → Option TI) (ti : Option TI) (z : Nat) (h m : AV) : OpR := match ti with
  | some ti => match ti.sh with
    | .slice e => cut2 (T e) z h m
    | _ => .stuck
  | none => .stuck
@[go_sem] theorem slice3R_sl {t : TypeId} {m h : Operand} {z : Nat} {xs : List D} : slice3R T tm t none (some h) m (.sl z xs) = cut1 T (T t) z (ev tm h) (ev tm m) := by
  simp only [slice3R, cutR, cut1, cut2]; rfl
@[go_sem] theorem cut1_some {b : Bool} {zs : List Value} {c : Nat} {e : TypeId} {z : Nat} {h m : AV} : cut1 T (some ⟨b, zs, c, .slice e⟩) z h m = cut2 (T e) z h m := rfl
@[go_sem] theorem cut2_some {te : TI} {z : Nat} {k k' : IntKind} {h m : Int} : cut2 (some te) z (.prim (.int k h)) (.prim (.int k' m)) = .new (h = 0 ∧ m = 0 ∧ te.zs.length = z) ⟨te.zs.length, []⟩ (fun i => .own i te.zs.length 0 0) := rfl
def conv2 (te : Option TI) (o : Option AObj) (z off len : Nat) : OpR := match te, o with
  | some te, some o => match te.sh with
    | .int .u8 => .val (z = 1 ∧ o.z = 1 ∧ off + len ≤ o.es.length ∧ 0 < len ∧ ((o.es.drop off).take len).all isByte = true) (.prim (.string (textOf ((o.es.drop off).take len))))
    | _ => .stuck
  | _, _ => .stuck
def conv1 (T : TypeId → Option TI) (S : Store) (ts td : Option TI) (x : AV) : OpR := match ts, td with
  | some ts, some td => match td.sh, x with
    | .int k, .prim (.int _ n) => .val True (.prim (.int k (k.wrap n)))
    | .str, .own i z off len => match ts.sh with
      | .slice e => conv2 (T e) (getO S i) z off len
      | _ => .stuck
    | _, _ => .stuck
  | _, _ => .stuck
@[go_sem] theorem opR_convert {s d : TypeId} {x : Operand} : opR T tm S (.convert s d x) = conv1 T S (T s) (T d) (ev tm x) := by
  simp only [opR, convR, conv1, conv2]; rfl
@[go_sem] theorem conv1_int {ts : TI} {b : Bool} {zs : List Value} {c : Nat} {k k' : IntKind} {n : Int} : conv1 T S (some ts) (some ⟨b, zs, c, .int k⟩) (.prim (.int k' n)) = .val True (.prim (.int k (k.wrap n))) := rfl
@[go_sem] theorem conv1_str {b b' : Bool} {zs zs' : List Value} {c c' : Nat} {e : TypeId} {i z off len : Nat} : conv1 T S (some ⟨b, zs, c, .slice e⟩) (some ⟨b', zs', c', .str⟩) (.own i z off len) = conv2 (T e) (getO S i) z off len := rfl
@[go_sem] theorem conv2_some {b : Bool} {zs : List Value} {c : Nat} {z0 : Nat} {es : List AV} {z off len : Nat} : conv2 (some ⟨b, zs, c, .int .u8⟩) (some ⟨z0, es⟩) z off len = .val (z = 1 ∧ z0 = 1 ∧ off + len ≤ es.length ∧ 0 < len ∧ ((es.drop off).take len).all isByte = true) (.prim (.string (textOf ((es.drop off).take len)))) := rfl
@[go_sem] theorem opR_alloc {t : TypeId} : opR T tm S (.alloc t) = onT T t fun ti => .new True ⟨ti.zs.length, [ti.zav]⟩ (fun i => .ref i ti.zs.length 0 0) := rfl
def boxR (x : AV) : OpR := .new (x.ok = true ∧ 0 < x.cells.length) ⟨x.cells.length, [x]⟩ (fun i => .ref i x.cells.length 0 0)
@[go_sem] theorem opR_box {t : TypeId} {x : Operand} : opR T tm S (.box t x) = boxR (ev tm x) := rfl
@[go_sem] theorem opR_makeSlice {t : TypeId} {l c : Operand} : opR T tm S (.makeSlice t l c) = makeR T t (ev tm l) (ev tm c) := rfl
@[go_sem] theorem opR_buildSlice {t : TypeId} {len : Nat} {parts : Array (Nat × Operand)} : opR T tm S (.buildSlice t len parts) = buildSliceR T tm t len parts := rfl
@[go_sem] theorem opR_build {t : TypeId} {parts : Array (Nat × Operand)} : opR T tm S (.build t parts) = buildR T tm t parts := rfl
def callV (f : AV) (args : List AV) : OpR := match f with | .clo g caps => .enter g (args ++ caps) | _ => .stuck
@[go_sem] theorem opR_callV {f : Operand} {args : List Operand} {ats : Array TypeId} : opR T tm S (.call ⟨.value f, args.toArray, ats⟩) = callV (ev tm f) (args.map (ev tm)) := by
  simp only [opR, callR, callV]
  split <;> simp_all
@[go_sem] theorem callV_clo {g : FuncId} {caps args : List AV} : callV (.clo g caps) args = .enter g (args ++ caps) := rfl
@[go_sem] theorem opR_len {x : Operand} {t : TypeId} : opR T tm S (.call ⟨.builtin .len, #[x], #[t]⟩) = lenOpR T t (ev tm x) := rfl
@[go_sem] theorem opR_append {x y : Operand} {t : TypeId} : opR T tm S (.call ⟨.builtin .append, #[x, y], #[t, t]⟩) = appendR T S t (ev tm x) (ev tm y) := by simp [opR, callR]
theorem appF_eq {t : TypeId} {x y : AV} (h : ¬ fresh0 x = true) : appF T S t x y = appendR T S t x y := by
  unfold appF
  split
  · exact absurd rfl h
  · rfl
@[go_sem] theorem opF_append {x y : Operand} {t : TypeId} : opF T tm S (.call ⟨.builtin .append, #[x, y], #[t, t]⟩) = appF T S t (ev tm x) (ev tm y) := by
  unfold opF freshOp
  simp only
  by_cases h : fresh0 (ev tm x) = true
  · rw [if_pos h]
    obtain ⟨i, z, off, e⟩ : ∃ i z off, ev tm x = .own i z off 0 := by
      unfold fresh0 at h
      split at h
      · rename_i i z off e; exact ⟨i, z, off, e⟩
      · cases h
    rw [e]
    exact opR_append
  · rw [if_neg h, appF_eq h]
    exact opR_append
@[go_sem] theorem opR_max {x y : Operand} {ts : Array TypeId} : opR T tm S (.call ⟨.builtin .max, #[x, y], ts⟩) = maxR false (ev tm x) (ev tm y) := by
  simp only [opR, callR]
end
section
variable {tm : List AV}
@[go_sem] theorem ev_tmp {t : Tmp} : ev tm (.tmp t) = tm.getD t .any := rfl
@[go_sem] theorem ev_bool {b : Bool} : ev tm (.const (.bool b)) = .prim (.bool b) := rfl
@[go_sem] theorem ev_int {k : IntKind} {n : Int} : ev tm (.const (.int k n)) = .prim (.int k n) := rfl
@[go_sem] theorem ev_str {s : ByteArray} : ev tm (.const (.string s)) = .prim (.string s) := rfl
@[go_sem] theorem ev_sl {a : Option Addr} {n c : Nat} : ev tm (.const (.slice a n c)) = .prim (.slice a n c) := rfl
@[go_sem] theorem ev_nilf : ev tm (.const .nilFunc) = .prim .nilFunc := rfl
@[go_sem] theorem ev_func {f : FuncId} : ev tm (.func f) = .clo f [] := rfl
end
attribute [go_sem] List.set_cons_succ List.set_cons_zero List.getD_cons_succ List.getD_cons_zero List.getElem?_cons_succ List.getElem?_cons_zero List.getElem?_toArray List.map_cons List.map_nil List.cons_append List.nil_append List.length_cons List.length_nil
  List.replicate_succ List.replicate_zero List.take_succ_cons List.take_zero List.drop_succ_cons List.drop_zero List.headD_cons List.all_cons List.all_nil
@[go_sem] theorem getO_zero {o : AObj} {S : Store} : getO (some o :: S) 0 = some o := rfl
@[go_sem] theorem getO_succ {x : Option AObj} {S : Store} {n : Nat} : getO (x :: S) (n + 1) = getO S n := rfl
@[go_sem] theorem av0_prim {v : Value} : D.av0 (.prim v) = .prim v := rfl
@[go_sem] theorem av0_sl {z : Nat} {xs : List D} : D.av0 (.sl z xs) = .sl z xs := rfl
@[go_sem] theorem av_agg {xs : List D} : D.av (.agg xs) = .agg (xs.map D.av0) := rfl
@[go_sem] theorem dcells_agg {xs : List D} : D.cells (.agg xs) = xs := rfl
@[go_sem] theorem dcells_prim {v : Value} : D.cells (.prim v) = [.prim v] := rfl
@[go_sem] theorem dcells_sl {z : Nat} {xs : List D} : D.cells (.sl z xs) = [.sl z xs] := rfl
@[go_sem] theorem cells_agg {xs : List AV} : AV.cells (.agg xs) = xs := rfl
@[go_sem] theorem cells_prim {v : Value} : AV.cells (.prim v) = [.prim v] := rfl
@[go_sem] theorem cells_sl {z : Nat} {xs : List D} : AV.cells (.sl z xs) = [.sl z xs] := rfl
@[go_sem] theorem cells_own {i z o l : Nat} : AV.cells (.own i z o l) = [.own i z o l] := rfl
@[go_sem] theorem cells_ref {i z o l : Nat} : AV.cells (.ref i z o l) = [.ref i z o l] := rfl
@[go_sem] theorem cells_clo {g : FuncId} {xs : List AV} : AV.cells (.clo g xs) = [.clo g xs] := rfl
@[go_sem] theorem putAt_agg {xs ys : List AV} {k : Nat} : AV.putAt (.agg xs) k ys = .agg (splice xs k ys) := rfl
@[go_sem] theorem putAt_prim {v : Value} {y : AV} {ys : List AV} {k : Nat} : AV.putAt (.prim v) k (y :: ys) = y := rfl
@[go_sem] theorem putAt_sl {z : Nat} {xs : List D} {y : AV} {ys : List AV} {k : Nat} : AV.putAt (.sl z xs) k (y :: ys) = y := rfl
@[go_sem] theorem putAt_own {i z o l : Nat} {y : AV} {ys : List AV} {k : Nat} : AV.putAt (.own i z o l) k (y :: ys) = y := rfl
attribute [go_sem] splice
def loadO (ti : TI) (o : Option AObj) (z k sub : Nat) : OpR := match o with
    | some o => if ti.agg then .val (o.z = z ∧ k < o.es.length ∧ sub + ti.zs.length ≤ z) (.agg (((o.es.getD k .any).cells.drop sub).take ti.zs.length))
      else .val (o.z = z ∧ k < o.es.length ∧ sub < z) ((o.es.getD k .any).cells.getD sub .any)
    | none => .stuck
@[go_sem] theorem loadR_ref {ti : TI} {S : Store} {i z k sub : Nat} : loadR ti S (.ref i z k sub) = loadO ti (getO S i) z k sub := by
  simp only [loadR, loadO]
  rfl
@[go_sem] theorem loadO_agg {zs : List Value} {n : Nat} {sh : Sh} {z0 : Nat} {es : List AV} {z k sub : Nat} : loadO ⟨true, zs, n, sh⟩ (some ⟨z0, es⟩) z k sub = .val (z0 = z ∧ k < es.length ∧ sub + zs.length ≤ z) (.agg (((es.getD k .any).cells.drop sub).take zs.length)) := rfl
@[go_sem] theorem loadO_one {zs : List Value} {n : Nat} {sh : Sh} {z0 : Nat} {es : List AV} {z k sub : Nat} : loadO ⟨false, zs, n, sh⟩ (some ⟨z0, es⟩) z k sub = .val (z0 = z ∧ k < es.length ∧ sub < z) ((es.getD k .any).cells.getD sub .any) := rfl
@[go_sem] theorem loadR_roA {zs : List Value} {n : Nat} {sh : Sh} {S : Store} {xs : List D} : loadR ⟨true, zs, n, sh⟩ S (.ro xs) = .val (zs.length ≤ xs.length) (.agg ((xs.take zs.length).map D.av0)) := rfl
@[go_sem] theorem loadR_roO {zs : List Value} {n : Nat} {sh : Sh} {S : Store} {xs : List D} : loadR ⟨false, zs, n, sh⟩ S (.ro xs) = .val (0 < xs.length) (xs.headD default).av0 := rfl
def storeO (ti : TI) (o : Option AObj) (v : AV) (i z k sub : Nat) : OpR := match o with
    | some o => .set (o.z = z ∧ k < o.es.length ∧ sub + ti.zs.length ≤ z ∧ v.cells.length = ti.zs.length ∧ v.ok = true) i ⟨o.z, o.es.set k ((o.es.getD k .any).putAt sub v.cells)⟩
    | none => .stuck
@[go_sem] theorem storeR_ref {ti : TI} {S : Store} {v : AV} {i z k sub : Nat} : storeR ti S v (.ref i z k sub) = storeO ti (getO S i) v i z k sub := by
  simp only [storeR, storeO]
  rfl
@[go_sem] theorem storeO_some {ti : TI} {z0 : Nat} {es : List AV} {v : AV} {i z k sub : Nat} : storeO ti (some ⟨z0, es⟩) v i z k sub = .set (z0 = z ∧ k < es.length ∧ sub + ti.zs.length ≤ z ∧ v.cells.length = ti.zs.length ∧ v.ok = true) i ⟨z0, es.set k ((es.getD k .any).putAt sub v.cells)⟩ := rfl
def fieldO (off : Option Nat) (x : AV) : OpR := match off with
    | some off => match x with
      | .ref i z k sub => .val True (.ref i z k (sub + off))
      | .ro xs => .val (off < xs.length) (.ro (xs.drop off))
      | _ => .stuck
    | none => .stuck
@[go_sem] theorem fieldR_struct {b : Bool} {zs : List Value} {n : Nat} {offs : List Nat} {f : Nat} {x : AV} : fieldR ⟨b, zs, n, .struct offs⟩ f x = fieldO offs[f]? x := by
  simp only [fieldR, fieldO]
  rfl
@[go_sem] theorem fieldO_ref {off i z k sub : Nat} : fieldO (some off) (.ref i z k sub) = .val True (.ref i z k (sub + off)) := rfl
@[go_sem] theorem fieldO_ro {off : Nat} {xs : List D} : fieldO (some off) (.ro xs) = .val (off < xs.length) (.ro (xs.drop off)) := rfl
def indexS (te : Option TI) (x : AV) (n : Int) : OpR := match te with
      | some te => match x with
        | .sl z xs => .val (0 ≤ n ∧ n.toNat < xs.length ∧ te.zs.length = z) (.ro (xs.getD n.toNat default).cells)
        | .own i z off len => .val (0 ≤ n ∧ n.toNat < len ∧ te.zs.length = z) (.ref i z (off + n.toNat) 0)
        | _ => .stuck
      | none => .stuck
def indexA (te : Option TI) (m : Nat) (x : AV) (n : Int) : OpR := match te with
      | some te => match x with
        | .ref i z k sub => .val (0 ≤ n ∧ n.toNat < m) (.ref i z k (sub + n.toNat * te.zs.length))
        | _ => .stuck
      | none => .stuck
@[go_sem] theorem indexR_slice {T : TypeId → Option TI} {b : Bool} {zs : List Value} {c : Nat} {e : TypeId} {x : AV} {k : IntKind} {n : Int} : indexR T ⟨b, zs, c, .slice e⟩ x (.prim (.int k n)) = indexS (T e) x n := by
  simp only [indexR, indexS]
  rfl
@[go_sem] theorem indexR_array {T : TypeId → Option TI} {b : Bool} {zs : List Value} {c : Nat} {m : Nat} {e : TypeId} {x : AV} {k : IntKind} {n : Int} : indexR T ⟨b, zs, c, .array m e⟩ x (.prim (.int k n)) = indexA (T e) m x n := by
  simp only [indexR, indexA]
  rfl
@[go_sem] theorem indexS_sl {te : TI} {z : Nat} {xs : List D} {n : Int} : indexS (some te) (.sl z xs) n = .val (0 ≤ n ∧ n.toNat < xs.length ∧ te.zs.length = z) (.ro (xs.getD n.toNat default).cells) := rfl
@[go_sem] theorem indexS_own {te : TI} {i z off len : Nat} {n : Int} : indexS (some te) (.own i z off len) n = .val (0 ≤ n ∧ n.toNat < len ∧ te.zs.length = z) (.ref i z (off + n.toNat) 0) := rfl
@[go_sem] theorem indexA_ref {te : TI} {m i z k sub : Nat} {n : Int} : indexA (some te) m (.ref i z k sub) n = .val (0 ≤ n ∧ n.toNat < m) (.ref i z k (sub + n.toNat * te.zs.length)) := rfl
@[go_sem] theorem binT_prim {op : BinOp} {ti : Option TI} {v : Value} {y : AV} : binT op ti (.prim v) y = binR op (ti.map (·.sh)) (.prim v) y := rfl
@[go_sem] theorem binT_sl {op : BinOp} {ti : Option TI} {z : Nat} {xs : List D} {y : AV} : binT op ti (.sl z xs) y = binR op (ti.map (·.sh)) (.sl z xs) y := rfl
@[go_sem] theorem binT_own {op : BinOp} {ti : Option TI} {i z o l : Nat} {y : AV} : binT op ti (.own i z o l) y = binR op (ti.map (·.sh)) (.own i z o l) y := rfl
@[go_sem] theorem binT_eq8 {z0 z1 z2 z3 z4 z5 z6 z7 a0 a1 a2 a3 a4 a5 a6 a7 b0 b1 b2 b3 b4 b5 b6 b7 : Int} {n : Nat} {offs : List Nat} : binT .eql (some ⟨true, [.int .i64 z0, .int .i64 z1, .int .i64 z2, .int .i64 z3, .int .i64 z4, .int .i64 z5, .int .i64 z6, .int .i64 z7], n, .struct offs⟩) (.agg [.prim (.int .i64 a0), .prim (.int .i64 a1), .prim (.int .i64 a2), .prim (.int .i64 a3), .prim (.int .i64 a4), .prim (.int .i64 a5), .prim (.int .i64 a6), .prim (.int .i64 a7)]) (.agg [.prim (.int .i64 b0), .prim (.int .i64 b1), .prim (.int .i64 b2), .prim (.int .i64 b3), .prim (.int .i64 b4), .prim (.int .i64 b5), .prim (.int .i64 b6), .prim (.int .i64 b7)]) = .val True (.prim (.bool (a0 == b0 && (a1 == b1 && (a2 == b2 && (a3 == b3 && (a4 == b4 && (a5 == b5 && (a6 == b6 && (a7 == b7 && true)))))))))) := by
  unfold binT
  simp only
  congr 1
  exact eq_true ⟨rfl, rfl, rfl, rfl, rfl⟩
@[go_sem] theorem binT_ne8 {z0 z1 z2 z3 z4 z5 z6 z7 a0 a1 a2 a3 a4 a5 a6 a7 b0 b1 b2 b3 b4 b5 b6 b7 : Int} {n : Nat} {offs : List Nat} : binT .neq (some ⟨true, [.int .i64 z0, .int .i64 z1, .int .i64 z2, .int .i64 z3, .int .i64 z4, .int .i64 z5, .int .i64 z6, .int .i64 z7], n, .struct offs⟩) (.agg [.prim (.int .i64 a0), .prim (.int .i64 a1), .prim (.int .i64 a2), .prim (.int .i64 a3), .prim (.int .i64 a4), .prim (.int .i64 a5), .prim (.int .i64 a6), .prim (.int .i64 a7)]) (.agg [.prim (.int .i64 b0), .prim (.int .i64 b1), .prim (.int .i64 b2), .prim (.int .i64 b3), .prim (.int .i64 b4), .prim (.int .i64 b5), .prim (.int .i64 b6), .prim (.int .i64 b7)]) = .val True (.prim (.bool (!(a0 == b0 && (a1 == b1 && (a2 == b2 && (a3 == b3 && (a4 == b4 && (a5 == b5 && (a6 == b6 && (a7 == b7 && true))))))))))) := by
  unfold binT
  simp only
  congr 1
  exact eq_true ⟨rfl, rfl, rfl, rfl, rfl⟩
@[go_sem] theorem binR_int {op : BinOp} {sh : Option Sh} {k : IntKind} {a b : Int} : binR op sh (.prim (.int k a)) (.prim (.int k b)) = binI op k a b := by simp [binR]
@[go_sem] theorem binR_beq {a b : Bool} : binR .eql (some .bool) (.prim (.bool a)) (.prim (.bool b)) = .val True (.prim (.bool (a == b))) := rfl
@[go_sem] theorem binR_sadd {sh : Option Sh} {a b : ByteArray} : binR .add sh (.prim (.string a)) (.prim (.string b)) = .val (a.size + b.size ≤ 9223372036854775807) (.prim (.string (a ++ b))) := rfl
@[go_sem] theorem binR_seq {sh : Option Sh} {a b : ByteArray} : binR .eql sh (.prim (.string a)) (.prim (.string b)) = .val True (.prim (.bool (a.toList == b.toList))) := rfl
@[go_sem] theorem binR_sne {sh : Option Sh} {a b : ByteArray} : binR .neq sh (.prim (.string a)) (.prim (.string b)) = .val True (.prim (.bool (!(a.toList == b.toList)))) := rfl
@[go_sem] theorem binR_slnil {e : TypeId} {z : Nat} {xs : List D} : binR .eql (some (.slice e)) (.sl z xs) (.prim (.slice none 0 0)) = .val (0 < xs.length) (.prim (.bool false)) := rfl
@[go_sem] theorem binR_ownnil {e : TypeId} {i z off len : Nat} : binR .eql (some (.slice e)) (.own i z off len) (.prim (.slice none 0 0)) = .val (0 < len) (.prim (.bool false)) := rfl
@[go_sem] theorem binR_prnil {e : TypeId} {a : Option Addr} {n c : Nat} : binR .eql (some (.slice e)) (.prim (.slice a n c)) (.prim (.slice none 0 0)) = .val True (.prim (.bool a.isNone)) := rfl
@[go_sem] theorem binR_bne {a b : Bool} : binR .neq (some .bool) (.prim (.bool a)) (.prim (.bool b)) = .val True (.prim (.bool (!(a == b)))) := rfl
attribute [go_sem] binI maxR boxR Option.map_some
def lenO (ti : Option TI) (x : AV) : OpR := match ti with
  | some ti => match ti.sh, x with
    | .slice _, .prim (.string _) => .stuck
    | .slice _, x => lenR x
    | .str, .prim (.string s) => lenR (.prim (.string s))
    | _, _ => .stuck
  | none => .stuck
@[go_sem] theorem lenOpR_eq {T : TypeId → Option TI} {t : TypeId} {x : AV} : lenOpR T t x = lenO (T t) x := by simp only [lenOpR, lenO]; rfl
@[go_sem] theorem lenO_sl {b : Bool} {zs : List Value} {c : Nat} {e : TypeId} {z : Nat} {xs : List D} : lenO (some ⟨b, zs, c, .slice e⟩) (.sl z xs) = .val True (.prim (.int .i64 xs.length)) := rfl
@[go_sem] theorem lenO_own {b : Bool} {zs : List Value} {c : Nat} {e : TypeId} {i z off len : Nat} : lenO (some ⟨b, zs, c, .slice e⟩) (.own i z off len) = .val True (.prim (.int .i64 len)) := rfl
@[go_sem] theorem lenO_nil {b : Bool} {zs : List Value} {c : Nat} {e : TypeId} : lenO (some ⟨b, zs, c, .slice e⟩) (.prim (.slice none 0 0)) = .val True (.prim (.int .i64 (0 : Nat))) := rfl
attribute [go_sem] List.length_map
@[go_sem] theorem endP_ret {rs : List ResultVar} {n0 : Nat} {Q : AV → Store → List Nat → Prop} {tm : List AV} {S : Store} {mv : List Nat} : endP P rs n0 Q .ret ⟨tm, S, mv⟩ = resP P rs tm S (fun r => Fin n0 r S mv Q) := rfl
@[go_sem] theorem endP_normal {rs : List ResultVar} {n0 : Nat} {Q : AV → Store → List Nat → Prop} {tm : List AV} {S : Store} {mv : List Nat} : endP P rs n0 Q .normal ⟨tm, S, mv⟩ = resP P rs tm S (fun r => Fin n0 r S mv Q) := rfl
@[go_sem] theorem resP_tmp {t : Tmp} {tm : List AV} {S : Store} {K : AV → Prop} : resP P [.tmp t] tm S K = K (tm.getD t .any) := rfl
@[go_sem] theorem resP_ct {ad u : Tmp} {t : TypeId} {tm : List AV} {S : Store} {K : AV → Prop} : resP P [.cell ad t, .tmp u] tm S K = resP P [.cell ad t] tm S (fun v => K (.tup [v, tm.getD u .any])) := by simp only [resP, resL]
@[go_sem] theorem resP_tc {ad u : Tmp} {t : TypeId} {tm : List AV} {S : Store} {K : AV → Prop} : resP P [.tmp u, .cell ad t] tm S K = resP P [.cell ad t] tm S (fun v => K (.tup [tm.getD u .any, v])) := by simp only [resP, resL]
@[go_sem] theorem resP_ctt {ad u x : Tmp} {t : TypeId} {tm : List AV} {S : Store} {K : AV → Prop} : resP P [.cell ad t, .tmp u, .tmp x] tm S K = resP P [.cell ad t] tm S (fun v => K (.tup [v, tm.getD u .any, tm.getD x .any])) := by simp only [resP, resL]
@[go_sem] theorem resP_ct3 {ad u x y : Tmp} {t : TypeId} {tm : List AV} {S : Store} {K : AV → Prop} : resP P [.cell ad t, .tmp u, .tmp x, .tmp y] tm S K = resP P [.cell ad t] tm S (fun v => K (.tup [v, tm.getD u .any, tm.getD x .any, tm.getD y .any])) := by simp only [resP, resL]
@[go_sem] theorem resP_ct4 {ad u x y z : Tmp} {t : TypeId} {tm : List AV} {S : Store} {K : AV → Prop} : resP P [.cell ad t, .tmp u, .tmp x, .tmp y, .tmp z] tm S K = resP P [.cell ad t] tm S (fun v => K (.tup [v, tm.getD u .any, tm.getD x .any, tm.getD y .any, tm.getD z .any])) := by simp only [resP, resL]
@[go_sem] theorem resP_none {tm : List AV} {S : Store} {K : AV → Prop} : resP P [] tm S K = K (.tup []) := by simp [resP, resL]
@[go_sem] theorem resP_two {t u : Tmp} {tm : List AV} {S : Store} {K : AV → Prop} : resP P [.tmp t, .tmp u] tm S K = K (.tup [tm.getD t .any, tm.getD u .any]) := by simp [resP, resL]
@[go_sem] theorem resP_three {t u x : Tmp} {tm : List AV} {S : Store} {K : AV → Prop} : resP P [.tmp t, .tmp u, .tmp x] tm S K = K (.tup [tm.getD t .any, tm.getD u .any, tm.getD x .any]) := by simp [resP, resL]
@[go_sem] theorem resP_four {t u x y : Tmp} {tm : List AV} {S : Store} {K : AV → Prop} : resP P [.tmp t, .tmp u, .tmp x, .tmp y] tm S K = K (.tup [tm.getD t .any, tm.getD u .any, tm.getD x .any, tm.getD y .any]) := by simp [resP, resL]
@[go_sem] theorem resP_five {t u x y z : Tmp} {tm : List AV} {S : Store} {K : AV → Prop} : resP P [.tmp t, .tmp u, .tmp x, .tmp y, .tmp z] tm S K = K (.tup [tm.getD t .any, tm.getD u .any, tm.getD x .any, tm.getD y .any, tm.getD z .any]) := by simp [resP, resL]
def resC (P : Program) (r : OpR) (K : AV → Prop) : Prop := match r with | .val φ v => φ ∧ K v | _ => False
theorem resP_cell {ad : Tmp} {t : TypeId} {tm : List AV} {S : Store} {K : AV → Prop} : resP P [.cell ad t] tm S K = resC P (onT (tiOf P) t fun ti => loadR ti S (tm.getD ad .any)) K := by
  simp only [resP, resC]
  rfl
attribute [go_sem] resP_cell
@[go_sem] theorem resC_val {φ : Prop} {v : AV} {K : AV → Prop} : resC P (.val φ v) K = (φ ∧ K v) := rfl
/-- The end of a function of data. -/
theorem fin_1 {r v : AV} {S : Store} {mv : List Nat} (ha : ArgT S true r v) : Fin 0 r S mv (fun r S' mv => (r = v ∧ S' = []) ∧ mv = []) := fin_pure (R := fun r S' => r = v ∧ S' = []) ha ⟨rfl, rfl⟩
theorem fin_pu {r v : AV} {S : Store} {mv : List Nat} (h : r = v) (hp : r.pu = true) : Fin 0 r S mv (fun r S' mv => (r = v ∧ S' = []) ∧ mv = []) := fin_1 (by rw [← h]; exact .of _ _ (arg_of_pu hp))
theorem fn1_of {f : FuncId} {fn : Func} {c : Code} {args : List AV} {v : AV} (hf : P.funcs[f]? = some fn) (hb : fn.body = some c) (hn : (fn.name == "runtime.NumGoroutine") = false)
    (h : codeP P c (endP P fn.results.toList 0 (fun r S' mv => (r = v ∧ S' = []) ∧ mv = [])) ⟨args ++ List.replicate (fn.ntmps - args.length) .any, [], []⟩) : Fn1 P f args v := afn_of hf hb hn h
end
end
section
/-- Whatever the first state describes the second describes too, where the caller has n objects at most. -/
def WkN (n : Nat) (st st' : St) : Prop := ∀ ok w0 μ0 S0 μ a w, S0.length ≤ n → RelT ok w0 μ0 S0 st μ a w → ∃ μ', RelT ok w0 μ0 S0 st' μ' a w
theorem WkN.trans {n : Nat} {s1 s2 s3 : St} (h : WkN n s1 s2) (k : WkN n s2 s3) : WkN n s1 s3 := fun ok w0 μ0 S0 μ a w hn hr => by
  obtain ⟨μ', hr'⟩ := h ok w0 μ0 S0 μ a w hn hr
  exact k ok w0 μ0 S0 μ' a w hn hr'
theorem wk_tm {n : Nat} {tm tm' : List AV} {S : Store} {mv : List Nat} (h : WL tm tm') : WkN n ⟨tm, S, mv⟩ ⟨tm', S, mv⟩ := fun ok w0 μ0 S0 μ a w _ hr => ⟨μ, hr.wl h⟩
theorem wk_mv {n : Nat} {tm : List AV} {S : Store} {mv mv' : List Nat} (h : ∀ i ∈ mv, i ∈ mv' ∨ n ≤ i) : WkN n ⟨tm, S, mv⟩ ⟨tm, S, mv'⟩ := by
  intro ok w0 μ0 S0 μ a w hn hr
  refine ⟨μ, hr.rs, hr.fr, hr.df, hr.sz, hr.tm, hr.md, hr.lv, hr.ln, ?_⟩
  intro i hi hm
  refine hr.mu i hi ?_
  cases hc : mv.contains i with
  | false => rfl
  | true =>
    rcases h i (by simpa using hc) with h' | h'
    · have : mv'.contains i = true := by simpa using h'
      rw [this] at hm; cases hm
    · omega
section
variable {P : Program} {ok : Nat → Prop} {w0 : World} {μ0 : Nat → Nat} {S0 : Store} {st : St} {μ : Nat → Nat} {a : Act} {w : World}
theorem live_app {S T : Store} {b : Nat} (h : liveB S μ b) : liveB (S ++ T) μ b := by
  obtain ⟨i, o, hi, hne, e⟩ := h
  exact ⟨i, o, by rw [List.getElem?_append_left (List.getElem?_eq_some_iff.1 hi).1]; exact hi, hne, e⟩
theorem Rep.trunc {S T : Store} {x : AV} {v : Value} (h : Rep ok w μ (S ++ T) x v) (hx : x.lt S.length) : Rep ok w μ S x v := by
  have hd : ∀ {d : D} {u : Value}, RepD w (fun b => ok b ∧ ¬ liveB (S ++ T) μ b) d u → RepD w (fun b => ok b ∧ ¬ liveB S μ b) d u := fun h =>
    h.mono (fun _ _ _ hc => hc) (fun ad u hl _ => ⟨hl.1, fun hl' => hl.2 (live_app hl')⟩)
  induction h with
  | prim v h1 => exact .prim v h1
  | sl z xs v h => exact .sl z xs v (hd h)
  | agg xs vs hl hs h ih => exact .agg xs vs hl hs fun j x v hj hv => ih j x v hj hv (fun k hk => by cases hx k hk with | agg _ hx => exact hx x (List.mem_of_getElem? hj))
  | tup xs vs hl h ih => exact .tup xs vs hl fun j x v hj hv => ih j x v hj hv (fun k hk => by cases hx k hk with | tup _ hx => exact hx x (List.mem_of_getElem? hj))
  | ro xs ad f hsp hne hb h1 h2 => exact .ro xs ad f hsp hne ⟨hb.1, fun hl' => hb.2 (live_app hl')⟩ h1 (fun j y hj => hd (h2 j y hj))
  | ref i z k sub hi =>
    refine .ref i z k sub ?_
    rcases Nat.lt_or_ge i S.length with h | h
    · exact h
    · cases hx i h with | ref _ _ _ _ hm => simp at hm
  | own0 i z off A hi =>
    refine .own0 i z off A ?_
    rcases Nat.lt_or_ge i S.length with h | h
    · exact h
    · cases hx i h with | own _ _ _ _ hm => simp at hm
  | own i z off len c cs ty hi h0 hc hb hsz =>
    refine .own i z off len c cs ty ?_ h0 hc hb hsz
    rcases Nat.lt_or_ge i S.length with h | h
    · exact h
    · cases hx i h with | own _ _ _ _ hm => simp at hm
  | clo g caps vs hl h ih => exact .clo g caps vs hl fun j x v hj hv => ih j x v hj hv (fun k hk => by cases hx k hk with | clo _ _ hx => exact hx x (List.mem_of_getElem? hj))
  | junk v h1 => exact .junk v h1
  | any v => exact .any v
/-- Does a list of objects name objects below n alone? -/
def sltB (n : Nat) (S : Store) : Bool := S.all fun o => match o with | none => true | some o => o.es.all fun x => x.cells.all (AV.lt1 n)
theorem wk_trunc {n : Nat} {tm : List AV} {S T : Store} {mv : List Nat} (hn : n ≤ S.length) (h1 : tm.all (AV.ltB S.length) = true) (h2 : sltB S.length S = true) : WkN n ⟨tm, S ++ T, mv⟩ ⟨tm, S, mv⟩ := by
  intro ok w0 μ0 S0 μ a w hn0 hr
  rw [List.all_eq_true] at h1
  unfold sltB at h2
  rw [List.all_eq_true] at h2
  have hg : ∀ (i : Nat) (o : AObj), S[i]? = some (some o) → (S ++ T)[i]? = some (some o) := fun i o hi => by rw [List.getElem?_append_left (List.getElem?_eq_some_iff.1 hi).1]; exact hi
  refine ⟨μ, ⟨?_, fun i o hi => hr.rs.siz i o (hg i o hi), fun i j oi oj hi hj => hr.rs.inj i j oi oj (hg i oi hi) (hg j oj hj)⟩, hr.fr, hr.df, hr.sz, ?_, hr.md, fun b hb hl => hr.lv b hb (live_app hl), Nat.le_trans hn0 hn, hr.mu⟩
  · intro i o hi hne
    obtain ⟨cs, ty, hb, hs, hc⟩ := hr.rs.blk i o (hg i o hi) hne
    refine ⟨cs, ty, hb, hs, fun k x j y hk hj => ?_⟩
    obtain ⟨v, hv, hv'⟩ := hc k x j y hk hj
    have := h2 (some o) (List.mem_of_getElem? hi)
    simp only [List.all_eq_true] at this
    exact ⟨v, hv, hv'.trunc (lt1_spec (this x (List.mem_of_getElem? hk) y (List.mem_of_getElem? hj)))⟩
  · intro t x ht
    exact (hr.tm t x ht).trunc (ltB_spec (h1 x (List.mem_of_getElem? ht)))
/-- A nil slice, as a slice of an object of its own. -/
theorem wk_nil {n : Nat} {tm : List AV} {S : Store} {mv : List Nat} (t z : Nat) (hz : 0 < z) (ht : tm[t]? = some (.prim (.slice none 0 0))) : WkN n ⟨tm, S, mv⟩ ⟨tm.set t (.own S.length z 0 0), S ++ [some ⟨z, []⟩], mv⟩ := by
  intro ok w0 μ0 S0 μ a w hn0 hr
  have hlive : ∀ b, liveB (S ++ [some ⟨z, []⟩]) μ b → liveB S μ b := by
    rintro b ⟨i, o, hi, hne, e⟩
    rw [List.getElem?_append] at hi
    split at hi
    · exact ⟨i, o, hi, hne, e⟩
    · have := List.mem_of_getElem? hi
      simp at this
      subst this
      exact absurd rfl hne
  have hsome : ∀ (i : Nat) (o : AObj), (S ++ [some ⟨z, []⟩])[i]? = some (some o) → S[i]? = some (some o) ∨ o = ⟨z, []⟩ := by
    intro i o hi
    rw [List.getElem?_append] at hi
    split at hi
    · exact .inl hi
    · have := List.mem_of_getElem? hi
      simp at this
      exact .inr this
  have hh : Hop w μ S w μ (S ++ [some ⟨z, []⟩]) [] := ⟨fun _ _ _ hc => hc, fun b _ hl => hlive b hl, by simp, fun _ _ _ => rfl, fun b cs ty fz hb => ⟨cs, hb, rfl⟩⟩
  refine ⟨μ, ⟨?_, ?_, ?_⟩, hr.fr, hr.df, by simpa using hr.sz, ?_, hr.md, fun b hb hl => hr.lv b hb (hlive b hl), Nat.le_trans hr.ln (by simp), hr.mu⟩
  · intro i o hi hne
    rcases hsome i o hi with h | rfl
    · obtain ⟨cs, ty, hb, hs, hc⟩ := hr.rs.blk i o h hne
      exact ⟨cs, ty, hb, hs, fun k x j y hk hj => by obtain ⟨v, hv, hr⟩ := hc k x j y hk hj; exact ⟨v, hv, hr.hop hh (AV.clean_nil y)⟩⟩
    · exact absurd rfl hne
  · intro i o hi
    rcases hsome i o hi with h | rfl
    · exact hr.rs.siz i o h
    · exact ⟨hz, fun x hx => by simp at hx⟩
  · intro i j oi oj hi hj hni hnj
    rcases hsome i oi hi with h | rfl
    · rcases hsome j oj hj with h' | rfl
      · exact hr.rs.inj i j oi oj h h' hni hnj
      · exact absurd rfl hnj
    · exact absurd rfl hni
  · intro t' x hx
    simp only [List.getElem?_set] at hx
    split at hx
    · rename_i e
      subst e
      have hlt := (List.getElem?_eq_some_iff.1 ht).1
      simp only [hlt, if_true, Option.some.injEq] at hx
      subst hx
      have := hr.tm t _ ht
      generalize a.tmps.getD t undef = u at this
      cases this
      exact .own0 _ _ _ _ (by simp)
    · exact (hr.tm t' x hx).hop hh (AV.clean_nil x)
/-- A loop whose states at its head are those of a family. -/
theorem awp_loopI {α : Type} {c : Code} {Q : Exit → St → Prop} (mk : α → St) (inv : α → Prop) (meas : α → Nat) (a0 : α) (h0 : inv a0) (hw : WkN st.S.length st (mk a0))
    (step : ∀ x, inv x → codeP P c (thenP (fun st' => ∃ y, inv y ∧ meas y < meas x ∧ WkN (mk a0).S.length st' (mk y)) Q) (mk x)) : AWP P (.loop c) Q st := by
  have key : AWP P (.loop c) Q (mk a0) := by
    intro ok w0 μ0 S0 μ a w hr
    have hlen : S0.length ≤ (mk a0).S.length := hr.ln
    let J : Nat → Act → World → Prop := fun n a w => ∃ x μ, inv x ∧ meas x = n ∧ RelT ok w0 μ0 S0 (mk x) μ a w
    have hmin : ∀ a w, (∃ n, J n a w) → ∃ n, J n a w ∧ ∀ m, J m a w → n ≤ m := by
      rintro a w ⟨n, hn⟩
      induction n using Nat.strongRecOn with
      | _ n ih =>
        by_cases h : ∃ m, m < n ∧ J m a w
        · obtain ⟨m, hm, hj⟩ := h; exact ih m hm hj
        · exact ⟨n, hn, fun m hm => Nat.le_of_not_lt fun hlt => h ⟨m, hlt, hm⟩⟩
    classical
    let M : Act → World → Nat := fun a w => if h : ∃ n, J n a w then (hmin a w h).choose else 0
    have hM : ∀ a w n, J n a w → J (M a w) a w ∧ M a w ≤ n := by
      intro a w n hj
      have hex : ∃ n, J n a w := ⟨n, hj⟩
      have hs := (hmin a w hex).choose_spec
      simp only [M, dif_pos hex]
      exact ⟨hs.1, hs.2 n hj⟩
    refine wp_loop (fun a w => ∃ n, J n a w) M ⟨_, a0, μ, h0, rfl, hr⟩ ?_
    rintro a w ⟨n, hj⟩
    obtain ⟨⟨x, μ1, hI, hme, hr1⟩, _⟩ := hM a w n hj
    refine Code.wp_mono ?_ (codeP_sound _ _ _ (step x hI) ok w0 μ0 S0 μ1 a w hr1)
    rintro e a' w' ⟨s, m, h1, h2⟩
    cases e with
    | normal =>
      obtain ⟨y, hy, hlt, hwk⟩ := h1
      obtain ⟨μ2, hr2⟩ := hwk ok w0 μ0 S0 m a' w' hlen h2
      have hJ : J (meas y) a' w' := ⟨y, μ2, hy, rfl, hr2⟩
      refine ⟨⟨_, hJ⟩, Nat.lt_of_le_of_lt (hM a' w' _ hJ).2 ?_⟩
      rw [← hme]; exact hlt
    | _ => exact ⟨s, m, h1, h2⟩
  intro ok w0 μ0 S0 μ a w hr
  obtain ⟨μ', hr'⟩ := hw ok w0 μ0 S0 μ a w hr.ln hr
  exact key ok w0 μ0 S0 μ' a w hr'
theorem cp_loop {α : Type} {c : Code} {Q : Exit → St → Prop} (mk : α → St) (inv : α → Prop) (meas : α → Nat) (a0 : α) (h0 : inv a0) (hw : WkN st.S.length st (mk a0))
    (step : ∀ x, inv x → codeP P c (thenP (fun st' => ∃ y, inv y ∧ meas y < meas x ∧ WkN (mk a0).S.length st' (mk y)) Q) (mk x)) : codeP P (.loop c) Q st := awp_loopI mk inv meas a0 h0 hw step
theorem cp_draw {id : Nat} {ops : List Oper} {Q : Exit → St → Prop} {tm : List AV} {S : Store} {mv : List Nat} (npre : Nat) (hm : P.follows .mixedOrders = true) (hc : chkDraw ops.toArray npre = true)
    (hd : (ops.all fun o => match o.dst with | none => true | some d => decide (d < tm.length)) = true)
    (h : preP P ops.toArray S (ops.take npre) tm [] (fun tm N => opsP P ops.toArray (ops.drop npre) ⟨tm, S ++ N.map some, mv⟩ (fun st' => Q .normal st'))) : codeP P (.region id ops.toArray true) Q ⟨tm, S, mv⟩ :=
  awp_draw npre hm hc hd h
end
end
section
/-- Values with the objects K renumbered 0, 1, .. -/
inductive Rn0 (K : List Nat) : AV → AV → Prop
  | same (x : AV) (h : x.pur0 = true) : Rn0 K x x
  | own (i j z off len : Nat) (h : K[j]? = some i) : Rn0 K (.own i z off len) (.own j z off len)
  | ref (i j z k sub : Nat) (h : K[j]? = some i) : Rn0 K (.ref i z k sub) (.ref j z k sub)
inductive Rn1 (K : List Nat) : AV → AV → Prop
  | of (x y : AV) (h : Rn0 K x y) : Rn1 K x y
  | agg (xs ys : List AV) (h : All2 (Rn0 K) xs ys) : Rn1 K (.agg xs) (.agg ys)
inductive RnT (K : List Nat) : AV → AV → Prop
  | of (x y : AV) (h : Rn1 K x y) : RnT K x y
  | tup (xs ys : List AV) (h : All2 (Rn1 K) xs ys) : RnT K (.tup xs) (.tup ys)
section
variable {ok : Nat → Prop} {w : World} {μ μ' : Nat → Nat} {S S' : Store} {K : List Nat}
theorem Rn0.sound (hlv : ∀ b, liveB S' μ' b → liveB S μ b) (hK : S'.length = K.length) (hμ : ∀ (j i : Nat), K[j]? = some i → μ' j = μ i) {x y : AV} {v : Value} (h : Rn0 K x y) (hr : Rep ok w μ S x v) : Rep ok w μ' S' y v := by
  have hd : ∀ {d : D} {u : Value}, RepD w (fun b => ok b ∧ ¬ liveB S μ b) d u → RepD w (fun b => ok b ∧ ¬ liveB S' μ' b) d u := fun h =>
    h.mono (fun _ _ _ hc => hc) (fun ad u hl _ => ⟨hl.1, fun hl' => hl.2 (hlv _ hl')⟩)
  cases h with
  | same _ hp =>
    cases hr with
    | prim _ h' => exact .prim _ h'
    | sl z xs _ h' => exact .sl z xs v (hd h')
    | ro xs ad f hsp hne hb hc hd' => exact .ro xs ad f hsp hne ⟨hb.1, fun hl' => hb.2 (hlv _ hl')⟩ hc (fun j y hj => hd (hd' j y hj))
    | junk _ h' => exact .junk _ h'
    | _ => simp [AV.pur0] at hp
  | own i j z off len hj =>
    have hjl : j < S'.length := by rw [hK]; exact (List.getElem?_eq_some_iff.1 hj).1
    cases hr with
    | own0 _ _ _ A hi => exact .own0 j z off A hjl
    | own _ _ _ _ c cs ty hi h0 hc hb hsz =>
      rw [← hμ j i hj] at hb
      have := Rep.own (ok := ok) (w := w) (μ := μ') (S := S') j z off len c cs ty hjl h0 hc hb hsz
      rw [hμ j i hj] at this
      exact this
  | ref i j z k sub hj =>
    have hjl : j < S'.length := by rw [hK]; exact (List.getElem?_eq_some_iff.1 hj).1
    cases hr with
    | ref _ _ _ _ hi =>
      have := Rep.ref (ok := ok) (w := w) (μ := μ') (S := S') j z k sub hjl
      rw [hμ j i hj] at this
      exact this
theorem Rn0.sca {x y : AV} (h : Rn0 K x y) : y.scalar = x.scalar := by
  cases h <;> rfl
theorem Rn1.sound (hlv : ∀ b, liveB S' μ' b → liveB S μ b) (hK : S'.length = K.length) (hμ : ∀ (j i : Nat), K[j]? = some i → μ' j = μ i) {x y : AV} {v : Value} (h : Rn1 K x y) (hr : Rep ok w μ S x v) : Rep ok w μ' S' y v := by
  cases h with
  | of _ _ h => exact h.sound hlv hK hμ hr
  | agg xs ys h =>
    cases hr with
    | agg _ vs hl hs hr =>
      refine .agg ys vs (by rw [h.len]; exact hl) ?_ ?_
      · intro y hy
        obtain ⟨j, hj, rfl⟩ := List.mem_iff_getElem.1 hy
        obtain ⟨x, hx, ha⟩ := h.get j _ (List.getElem?_eq_getElem hj)
        rw [ha.sca]
        exact hs x (List.mem_of_getElem? hx)
      · intro j y v hj hv
        obtain ⟨x, hx, ha⟩ := h.get j y hj
        exact ha.sound hlv hK hμ (hr j x v hx hv)
theorem RnT.sound (hlv : ∀ b, liveB S' μ' b → liveB S μ b) (hK : S'.length = K.length) (hμ : ∀ (j i : Nat), K[j]? = some i → μ' j = μ i) {x y : AV} {v : Value} (h : RnT K x y) (hr : Rep ok w μ S x v) : Rep ok w μ' S' y v := by
  cases h with
  | of _ _ h => exact h.sound hlv hK hμ hr
  | tup xs ys h =>
    cases hr with
    | tup _ vs hl hr =>
      refine .tup ys vs (by rw [h.len]; exact hl) fun j y v hj hv => ?_
      obtain ⟨x, hx, ha⟩ := h.get j y hj
      exact ha.sound hlv hK hμ (hr j x v hx hv)
theorem Rn1.cells {x y : AV} (h : Rn1 K x y) (hx : ∀ c ∈ x.cells, c.scalar = true) : y.cells.length = x.cells.length ∧ (∀ (j : Nat) (c' : AV), y.cells[j]? = some c' → ∃ c, x.cells[j]? = some c ∧ Rn0 K c c') := by
  cases h with
  | of _ _ h =>
    have hxs : x.cells = [x] ∧ y.cells = [y] := by
      cases h with
      | same _ hp => cases x <;> simp_all [AV.pur0, AV.cells]
      | own => exact ⟨rfl, rfl⟩
      | ref => exact ⟨rfl, rfl⟩
    rw [hxs.1, hxs.2]
    refine ⟨rfl, fun j c' hj => ?_⟩
    cases j with
    | zero => simp at hj; subst hj; exact ⟨x, rfl, h⟩
    | succ j => simp at hj
  | agg xs ys h => exact ⟨h.len, fun j c' hj => h.get j c' hj⟩
/-- The end of a function that hands on the objects K. -/
theorem fin_keep (K : List Nat) {r r' : AV} {S S' : Store} {mv : List Nat} {R : AV → Store → Prop} (hn : K.Nodup) (hl : S'.length = K.length)
    (hS : ∀ (j i : Nat), K[j]? = some i → ∃ (o o' : AObj), getO S i = some o ∧ S'[j]? = some (some o') ∧ o'.z = o.z ∧ All2 (Rn1 K) o.es o'.es)
    (hr : RnT K r r') (h : R r' S') : Fin 0 r S mv (fun r S' mv => R r S' ∧ mv = []) := by
  refine ⟨r', S', [], ⟨h, rfl⟩, ?_⟩
  intro ok w0 μ0 S0 μ a w v tm h0 hrel hv
  have hS0 : S0 = [] := List.eq_nil_of_length_eq_zero h0
  subst hS0
  let μ' : Nat → Nat := fun j => μ (K.getD j 0)
  have hμ : ∀ (j i : Nat), K[j]? = some i → μ' j = μ i := fun j i hj => by simp [μ', List.getD, hj]
  have hget : ∀ (j : Nat) (o' : AObj), S'[j]? = some (some o') → ∃ i o, K[j]? = some i ∧ S[i]? = some (some o) ∧ o'.z = o.z ∧ All2 (Rn1 K) o.es o'.es := by
    intro j o' hj
    have hjl : j < K.length := by rw [← hl]; exact (List.getElem?_eq_some_iff.1 hj).1
    obtain ⟨o, o2, h1, h2, h3, h4⟩ := hS j K[j] (List.getElem?_eq_getElem hjl)
    rw [hj] at h2
    cases h2
    exact ⟨K[j], o, List.getElem?_eq_getElem hjl, getO_some h1, h3, h4⟩
  have hne : ∀ {o o' : AObj}, All2 (Rn1 K) o.es o'.es → o'.es ≠ [] → o.es ≠ [] := by
    intro o o' h hne e
    have := h.len
    rw [e] at this
    exact hne (List.eq_nil_of_length_eq_zero this)
  have hlv : ∀ b, liveB S' μ' b → liveB S μ b := by
    rintro b ⟨j, o', hj, hne', rfl⟩
    obtain ⟨i, o, hi, ho, hz, hes⟩ := hget j o' hj
    exact ⟨i, o, ho, hne hes hne', (hμ j i hi).symm⟩
  refine ⟨μ', ⟨?_, ?_, ?_⟩, hr.sound hlv hl hμ hv, fun b hb hl' => hrel.lv b hb (hlv b hl'), by simp, fun i hi => by simp at hi⟩
  · intro j o' hj hne'
    obtain ⟨i, o, hi, ho, hz, hes⟩ := hget j o' hj
    obtain ⟨cs, ty, hb, hs, hc⟩ := hrel.rs.blk i o ho (hne hes hne')
    refine ⟨cs, ty, by rw [hμ j i hi]; exact hb, by rw [hes.len, hz]; exact hs, fun k x' jj y' hk hjj => ?_⟩
    obtain ⟨x, hx, hxr⟩ := hes.get k x' hk
    obtain ⟨y, hy, hyr⟩ := (hxr.cells ((hrel.rs.siz i o ho).2 x (List.mem_of_getElem? hx)).2).2 jj y' hjj
    obtain ⟨u, hu, hrep⟩ := hc k x jj y hx hy
    exact ⟨u, by rw [hz]; exact hu, hyr.sound hlv hl hμ hrep⟩
  · intro j o' hj
    obtain ⟨i, o, hi, ho, hz, hes⟩ := hget j o' hj
    obtain ⟨h1, h2⟩ := hrel.rs.siz i o ho
    refine ⟨by rw [hz]; exact h1, fun x' hx' => ?_⟩
    obtain ⟨k, hk, rfl⟩ := List.mem_iff_getElem.1 hx'
    obtain ⟨x, hx, hxr⟩ := hes.get k _ (List.getElem?_eq_getElem hk)
    have hx2 := h2 x (List.mem_of_getElem? hx)
    obtain ⟨c1, c2⟩ := hxr.cells hx2.2
    refine ⟨by rw [c1, hz]; exact hx2.1, fun y' hy' => ?_⟩
    obtain ⟨jj, hjj, rfl⟩ := List.mem_iff_getElem.1 hy'
    obtain ⟨y, hy, hyr⟩ := c2 jj _ (List.getElem?_eq_getElem hjj)
    rw [hyr.sca]
    exact hx2.2 y (List.mem_of_getElem? hy)
  · intro j j' oj oj' hj hj' hnj hnj' e
    obtain ⟨i, o, hi, ho, hz, hes⟩ := hget j oj hj
    obtain ⟨i', o2, hi', ho', hz', hes'⟩ := hget j' oj' hj'
    rw [hμ j i hi, hμ j' i' hi'] at e
    have := hrel.rs.inj i i' o o2 ho ho' (hne hes hnj) (hne hes' hnj') e
    subst this
    have hjl := (List.getElem?_eq_some_iff.1 hi)
    have hjl' := (List.getElem?_eq_some_iff.1 hi')
    exact (List.getElem_inj hn).1 (hjl.2.trans hjl'.2.symm)
end
end
section
def listN (n m : Nat) : Array Bool := ((List.range m).map fun k => decide (k < n)).toArray
def stepE (P : Program) (ops : Array Oper) (o : Option Oper) (st : St) (K : St → Prop) : Prop := match o with
  | none => K st
  | some o => match gd ops st.tm o with
    | none => False
    | some true => stepP P o st K
    | some false => K (st.put o.dst (.tup []))
def expP (P : Program) (ops : Array Oper) : Nat → Array Bool → St → (St → Prop) → Prop
  | 0, listed, st, K => Region.ready .any ops listed = [] ∧ K st
  | f + 1, listed, st, K => (Region.ready .any ops listed = [] → K st) ∧ ∀ i ∈ Region.ready .any ops listed, stepE P ops ops[i]? st (fun st' => expP P ops f (listed.setIfInBounds i true) st' K)
def chkDraw2 (ops : Array Oper) (npre : Nat) : Bool :=
  decide (npre ≤ ops.size) && (List.range npre).all (fun k => match ops[k]? with
    | none => false
    | some o =>
      (o.after.toList.all fun e => Region.binds .any e && decide (e.on < k)) &&
      (match o.op with | .select _ _ => false | _ => true) && o.dst.isSome &&
      ((o.looksAt ops).all fun t => (List.range npre).all fun j => dstOf ops j != some t || o.after.toList.any (·.on == j)) &&
      ((List.range npre).all fun j => j == k || dstOf ops j != o.dst)) &&
  (decide (npre = ops.size) || (List.range npre).all fun k => (List.range (npre + 1)).any fun j => decide (k < j) && (match ops[j]? with | none => false | some o => o.after.toList.any fun e => Region.binds .any e && e.on == k)) &&
  (List.range ops.size).all fun k => decide (k ≤ npre) || (match ops[k]? with | none => false | some o => o.after.toList.any fun e => Region.binds .any e && decide (npre ≤ e.on))
section
variable {P : Program} {ops : Array Oper} {S0 : Store}
structure Chk2 (ops : Array Oper) (npre : Nat) : Prop where
  le : npre ≤ ops.size
  back : ∀ k o, k < npre → ops[k]? = some o → ∀ e ∈ o.after, Region.binds .any e = true ∧ e.on < k
  dst : ∀ k o, k < npre → ops[k]? = some o → ∃ d, o.dst = some d
  look : ∀ k o, k < npre → ops[k]? = some o → ∀ t ∈ o.looksAt ops, ∀ j, j < npre → dstOf ops j = some t → ∃ e ∈ o.after, e.on = j
  uniq : ∀ k o, k < npre → ops[k]? = some o → ∀ j, j < npre → j ≠ k → dstOf ops j ≠ o.dst
  dep : npre < ops.size → ∀ k, k < npre → ∃ j oj e, k < j ∧ j ≤ npre ∧ ops[j]? = some oj ∧ e ∈ oj.after ∧ Region.binds .any e = true ∧ e.on = k
  later : ∀ k o, npre < k → ops[k]? = some o → ∃ e ∈ o.after, Region.binds .any e = true ∧ npre ≤ e.on
theorem chk2_spec {npre : Nat} (h : chkDraw2 ops npre = true) : Chk2 ops npre := by
  unfold chkDraw2 at h
  simp only [Bool.and_eq_true, decide_eq_true_eq, List.all_eq_true, List.mem_range] at h
  obtain ⟨⟨⟨hle, hpre⟩, hdep⟩, hlat⟩ := h
  have hk : ∀ k o, k < npre → ops[k]? = some o → (((((o.after.toList.all fun e => Region.binds .any e && decide (e.on < k)) = true ∧ (match o.op with | .select _ _ => false | _ => true) = true) ∧ o.dst.isSome = true) ∧
      ((o.looksAt ops).all fun t => (List.range npre).all fun j => dstOf ops j != some t || o.after.toList.any (·.on == j)) = true) ∧ ((List.range npre).all fun j => j == k || dstOf ops j != o.dst) = true) := by
    intro k o hk ho
    have := hpre k hk
    rw [ho] at this
    simpa only [Bool.and_eq_true] using this
  refine ⟨hle, ?_, ?_, ?_, ?_, ?_, ?_⟩
  · intro k o hk' ho e he
    have := (hk k o hk' ho).1.1.1.1
    rw [List.all_eq_true] at this
    have := this e (by simpa using he)
    simpa only [Bool.and_eq_true, decide_eq_true_eq] using this
  · intro k o hk' ho
    exact Option.isSome_iff_exists.1 (hk k o hk' ho).1.1.2
  · intro k o hk' ho t ht j hj hd
    have := (hk k o hk' ho).1.2
    simp only [List.all_eq_true, List.mem_range] at this
    have := this t ht j hj
    rw [Bool.or_eq_true] at this
    rcases this with h | h
    · simp [hd] at h
    · rw [List.any_eq_true] at h
      obtain ⟨e, he, hej⟩ := h
      exact ⟨e, by simpa using he, by simpa using hej⟩
  · intro k o hk' ho j hj hne hd
    have := (hk k o hk' ho).2
    simp only [List.all_eq_true, List.mem_range] at this
    have := this j hj
    rw [Bool.or_eq_true] at this
    rcases this with h | h
    · exact hne (by simpa using h)
    · simp [hd] at h
  · intro hlt k hk'
    rw [Bool.or_eq_true] at hdep
    rcases hdep with h | h
    · have : npre = ops.size := by simpa using h
      omega
    · rw [List.all_eq_true] at h
      have := h k (List.mem_range.2 hk')
      rw [List.any_eq_true] at this
      obtain ⟨j, hj, hj2⟩ := this
      rw [Bool.and_eq_true] at hj2
      obtain ⟨h1, h2⟩ := hj2
      cases hoj : ops[j]? with
      | none => rw [hoj] at h2; cases h2
      | some oj =>
        rw [hoj] at h2
        simp only [List.any_eq_true, Bool.and_eq_true] at h2
        obtain ⟨e, he, hb, hon⟩ := h2
        exact ⟨j, oj, e, by simpa using h1, by have := List.mem_range.1 hj; omega, hoj, by simpa using he, hb, by simpa using hon⟩
  · intro k o hk' ho
    have := hlat k (Array.getElem?_eq_some_iff.1 ho).1
    rw [Bool.or_eq_true] at this
    rcases this with h | h
    · have : k ≤ npre := by simpa using h
      omega
    · rw [ho] at h
      simp only [List.any_eq_true, Bool.and_eq_true, decide_eq_true_eq] at h
      obtain ⟨e, he, hb, hon⟩ := h
      exact ⟨e, by simpa using he, hb, hon⟩
/-- What a listed operation goes by is listed. -/
def Clo (ops : Array Oper) (npre : Nat) (listed : Array Bool) : Prop := ∀ k o, k < npre → listed.getD k false = true → ops[k]? = some o → ∀ e ∈ o.after, listed.getD e.on false = true
end
section
variable {P : Program} {ok : Nat → Prop} {w0 : World} {μ0 : Nat → Nat} {Sc : Store}
theorem exp_any {ops : Array Oper} {Q : Exit → Act → World → Prop} {K : St → Prop} (hQ : ∀ st μ a w, K st → RelT ok w0 μ0 Sc st μ a w → Q .normal a w) :
    ∀ (fuel : Nat) (listed : Array Bool) (st : St) (μ : Nat → Nat) (a : Act) (w : World), expP P ops fuel listed st K → RelT ok w0 μ0 Sc st μ a w → wpAny P .any ops Q fuel listed a w
  | 0, listed, st, μ, a, w, h, hr => ⟨h.1, hQ st μ a w h.2 hr⟩
  | f + 1, listed, st, μ, a, w, h, hr => by
    refine ⟨fun h0 => hQ st μ a w (h.1 h0) hr, fun i hi => ?_⟩
    have hs := h.2 i hi
    unfold wpOp
    cases ho : ops[i]? with
    | none =>
      rw [ho] at hs
      exact exp_any hQ f _ st μ a w hs hr
    | some o =>
      rw [ho] at hs
      simp only [stepE] at hs
      simp only
      split at hs
      · exact hs.elim
      · rename_i hg
        rw [if_pos (gd_sound hr hg)]
        refine .inl (Oper.wp_mono ?_ (step_sound hr o hs (Q := Q)))
        rintro a' w' ⟨st', μ', hK, hr'⟩
        exact exp_any hQ f _ st' μ' a' w' hK hr'
      · rename_i hg
        rw [if_neg (by rw [gd_sound hr hg]; simp)]
        exact exp_any hQ f _ _ μ _ w hs (hr.put _ (rep_undef _ _ _ _))
theorem pre_any2 {ops : Array Oper} {npre : Nat} (hc : Chk2 ops npre) {S0 : Store} {tm0 tmF : List AV} {NF : List AObj} {c : Nat → Nat} {b : Nat → Bool} {mv : List Nat}
    (hcert : ∀ k, k < npre → ∃ o d, ops[k]? = some o ∧ Cert P ops S0 tmF NF o d (c k) (b k)) (hcr : ∀ k, k < npre → b k = true → c k < NF.length) (hci : ∀ k j, k < npre → j < npre → b k = true → b j = true → c k = c j → k = j)
    (hcs : ∀ s, s < NF.length → ∃ k, k < npre ∧ b k = true ∧ c k = s) (hag : ∀ t, (∀ k, k < npre → dstOf ops k ≠ some t) → tmF[t]? = tm0[t]?) (htl : tmF.length = tm0.length)
    (hlt0 : ∀ (t : Nat) (x : AV), tm0[t]? = some x → x.lt S0.length) (hltS : ∀ (j : Nat) (o : AObj), S0[j]? = some (some o) → ∀ x ∈ o.es, ∀ y ∈ x.cells, y.lt S0.length) (hSc : Sc.length ≤ S0.length)
    {Q : Exit → Act → World → Prop} {K : St → Prop} (hQ : ∀ st μ a w, K st → RelT ok w0 μ0 Sc st μ a w → Q .normal a w)
    (hpost : expP P ops (ops.size - npre) (listN npre ops.size) ⟨tmF, S0 ++ NF.map some, mv⟩ K) :
    ∀ (fuel : Nat) (listed : Array Bool) (tmE : List AV) (SE : Store) (μ : Nat → Nat) (a : Act) (w : World), Pre ops npre S0 tm0 tmF NF c b listed tmE SE → Clo ops npre listed → ((List.range ops.size).filter fun k => !listed.getD k false).length = fuel →
      RelT ok w0 μ0 Sc ⟨tmE, SE, mv⟩ μ a w → wpAny P .any ops Q fuel listed a w := by
  have hdst : ∀ k o d, k < npre → ops[k]? = some o → o.dst = some d → dstOf ops k = some d := fun k o d _ ho hd => by simp [dstOf, ho, hd]
  -- all first operations are listed
  have hdone : ∀ (listed : Array Bool) (tmE : List AV) (SE : Store) (μ : Nat → Nat) (a : Act) (w : World) (fuel : Nat), Pre ops npre S0 tm0 tmF NF c b listed tmE SE → ((List.range ops.size).filter fun k => !listed.getD k false).length = fuel →
      (∀ k, k < npre → listed.getD k false = true) → RelT ok w0 μ0 Sc ⟨tmE, SE, mv⟩ μ a w → wpAny P .any ops Q fuel listed a w := by
    intro listed tmE SE μ a w fuel hpre hfuel hall hr
    have hlist : ∀ k, k < ops.size → listed.getD k false = decide (k < npre) := by
      intro k hk
      by_cases h : k < npre
      · rw [hall k h]; simp [h]
      · cases hb : listed.getD k false with
        | true => exact absurd (hpre.below k hk hb) h
        | false => simp [h]
    have hf : npre + fuel = ops.size := by
      rw [← hfuel, count_range _ _ (fun k => !decide (k < npre)) (fun k hk => by rw [hlist k hk]), count_ge _ _ hc.le]
      have := hc.le
      omega
    have htm : tmE = tmF := by
      apply List.ext_getElem?
      intro t
      by_cases h : ∃ k, k < npre ∧ dstOf ops k = some t
      · obtain ⟨k, hk, hd⟩ := h
        exact hpre.done k t hk (hall k hk) hd
      · rw [hpre.todo t (fun k hk _ hd => h ⟨k, hk, hd⟩), hag t (fun k hk hd => h ⟨k, hk, hd⟩)]
    have hS : SE = S0 ++ NF.map some := by
      apply List.ext_getElem?
      intro i
      rcases Nat.lt_or_ge i S0.length with h | h
      · rw [hpre.old i h, List.getElem?_append_left h]
      · rw [List.getElem?_append_right h, List.getElem?_map]
        rcases Nat.lt_or_ge (i - S0.length) NF.length with h2 | h2
        · obtain ⟨k, hk, hb, hck⟩ := hcs _ h2
          have := hpre.made k hk hb (hall k hk)
          rw [hck, Nat.add_sub_cancel' h] at this
          rw [this, List.getElem?_eq_getElem h2]
          rfl
        · rw [List.getElem?_eq_none (by rw [hpre.slen]; omega), List.getElem?_eq_none h2]
          rfl
    subst htm; subst hS
    have hl : listed = listN npre ops.size := by
      apply Array.ext
      · rw [hpre.size]; simp [listN]
      · intro k h1 h2
        have := hlist k (by rw [← hpre.size]; exact h1)
        rw [Array.getD_eq_getD_getElem?, Array.getElem?_eq_getElem h1] at this
        simp only [Option.getD_some] at this
        rw [this]
        simp [listN]
    rw [hl, show fuel = ops.size - npre by omega]
    exact exp_any hQ _ _ _ μ a w hpost hr
  intro fuel
  induction fuel with
  | zero =>
    intro listed tmE SE μ a w hpre hclo hfuel hr
    refine hdone listed tmE SE μ a w 0 hpre hfuel (fun k hk => ?_) hr
    cases hb : listed.getD k false with
    | true => rfl
    | false =>
      have : k ∈ (List.range ops.size).filter fun k => !listed.getD k false := by
        simp only [List.mem_filter, List.mem_range]; exact ⟨by have := hc.le; omega, by simpa using hb⟩
      rw [List.eq_nil_of_length_eq_zero hfuel] at this
      simp at this
  | succ fuel ih =>
    intro listed tmE SE μ a w hpre hclo hfuel hr
    by_cases hall : ∀ k, k < npre → listed.getD k false = true
    · exact hdone listed tmE SE μ a w (fuel + 1) hpre hfuel hall hr
    · -- one of the first operations is still to come: the ready ones are such
      obtain ⟨k0, hk0, hl0, hmin⟩ : ∃ k, k < npre ∧ listed.getD k false = false ∧ ∀ j, j < k → listed.getD j false = true := by
        have hex : ∃ k, k < npre ∧ listed.getD k false = false := by
          apply Classical.byContradiction
          intro hn
          apply hall
          intro k hk
          cases hb : listed.getD k false with
          | true => rfl
          | false => exact absurd ⟨k, hk, hb⟩ hn
        obtain ⟨k, hk⟩ := hex
        induction k using Nat.strongRecOn with
        | _ k ihk =>
          by_cases h : ∃ j, j < k ∧ listed.getD j false = false
          · obtain ⟨j, hj, hlj⟩ := h
            exact ihk j hj ⟨by omega, hlj⟩
          · refine ⟨k, hk.1, hk.2, fun j hj => ?_⟩
            cases hb : listed.getD j false with
            | true => rfl
            | false => exact absurd ⟨j, hj, hb⟩ h
      have hnp := hc.le
      have hk0r : k0 ∈ Region.ready .any ops listed := by
        rw [mem_ready]
        refine ⟨by rw [getD_b (by rw [hpre.size]; omega)]; exact hl0, ops[k0]'(by omega), Array.getElem?_eq_getElem (by omega), fun e he _ => ?_⟩
        exact hmin _ (hc.back k0 _ hk0 (Array.getElem?_eq_getElem (by omega)) e he).2
      refine ⟨fun h0 => (by rw [h0] at hk0r; simp at hk0r), fun i hi => ?_⟩
      obtain ⟨hi1, o, ho, hi2⟩ := mem_ready.1 hi
      have hil := (Array.getElem?_eq_some_iff.1 ho).1
      rw [getD_b (by rw [hpre.size]; omega)] at hi1
      have hinp : i < npre := by
        rcases Nat.lt_or_ge i npre with h | h
        · exact h
        · exfalso
          rcases Nat.eq_or_lt_of_le h with e0 | hgt
          · -- the first of the others: all that it goes by is listed
            subst e0
            have key : ∀ m, ∀ k, npre - k ≤ m → k < npre → listed.getD k false = true := by
              intro m
              induction m with
              | zero => intro k h1 h2; omega
              | succ m ihm =>
                intro k h1 h2
                obtain ⟨j, oj, e, hj1, hj2, hoj, he, hb, hek⟩ := hc.dep (by omega) k h2
                rcases Nat.eq_or_lt_of_le hj2 with e1 | hj3
                · subst e1
                  rw [ho] at hoj; cases hoj
                  have := hi2 e he hb
                  rw [hek] at this; exact this
                · have := hclo j oj hj3 (ihm j (by omega) hj3) hoj e he
                  rw [hek] at this; exact this
            rw [key npre k0 (by omega) hk0] at hl0
            cases hl0
          · obtain ⟨e, he, hb, hek⟩ := hc.later i o hgt ho
            have h1 := hi2 e he hb
            have h2 : e.on < ops.size := by
              rcases Nat.lt_or_ge e.on ops.size with h | h
              · exact h
              · rw [Array.getD_eq_getD_getElem?, Array.getElem?_eq_none (by rw [hpre.size]; exact h)] at h1; cases h1
            have := hpre.below e.on h2 h1
            omega
      obtain ⟨o', d, ho', hd, hcases⟩ := hcert i hinp
      rw [ho] at ho'
      cases ho'
      have hdi := hdst i o d hinp ho hd
      -- what it looks at is as it will be at the end
      have hlk : ∀ t ∈ o.looksAt ops, tmE[t]? = tmF[t]? := by
        intro t ht
        by_cases h : ∃ j, j < npre ∧ dstOf ops j = some t
        · obtain ⟨j, hj, hdj⟩ := h
          obtain ⟨e, he, hej⟩ := hc.look i o hinp ho t ht j hj hdj
          have := hi2 e he (hc.back i o hinp ho e he).1
          rw [hej] at this
          exact hpre.done j t hj this hdj
        · rw [hpre.todo t (fun k hk _ hdk => h ⟨k, hk, hdk⟩), hag t (fun k hk hdk => h ⟨k, hk, hdk⟩)]
      have hgE : gd ops tmE o = gd ops tmF o := gd_eq hlk
      have hoE : ∀ S, opF (tiOf P) tmE S o.op = opF (tiOf P) tmF S o.op := fun S => opF_eq hlk
      have hmore : ∀ i o, getO S0 i = some o → getO SE i = some o := by
        intro i o hio
        have h1 := getO_some hio
        have hlt := (List.getElem?_eq_some_iff.1 h1).1
        unfold getO
        rw [hpre.old i hlt, h1]
      have hfuel' : ((List.range ops.size).filter fun k => !(listed.setIfInBounds i true).getD k false).length = fuel := by
        have := count_set (listed := listed) hpre.size hil hi1
        omega
      have hset : ∀ k, (listed.setIfInBounds i true).getD k false = (decide (k = i) || listed.getD k false) := fun k => getD_set (by rw [hpre.size]; exact hil)
      have hclo' : Clo ops npre (listed.setIfInBounds i true) := by
        intro k ok hk hl hok e he
        rw [hset] at hl ⊢
        by_cases e2 : k = i
        · subst e2
          rw [ho] at hok; cases hok
          rw [hi2 e he (hc.back k o hk ho e he).1]; simp
        · simp only [e2, decide_false, Bool.false_or] at hl
          rw [hclo k ok hk hl hok e he]; simp
      have hdlen : d < tmE.length := by
        rw [hpre.len]
        have : ∃ x, tmF[d]? = some x := by
          rcases hcases with h | h | h | h | h
          · exact ⟨_, h.2.2⟩
          · obtain ⟨_, _, _, v, _, _, h, _⟩ := h; exact ⟨_, h⟩
          · obtain ⟨_, _, _, _, v, _, _, h, _⟩ := h; exact ⟨_, h⟩
          · obtain ⟨_, _, _, _, _, _, _, h, _⟩ := h; exact ⟨_, h⟩
          · obtain ⟨_, _, _, _, _, _, _, _, _, h, _⟩ := h; exact ⟨_, h⟩
        obtain ⟨x, hx⟩ := this
        exact (List.getElem?_eq_some_iff.1 hx).1
      -- the state behind it
      have hnext : ∀ (v : AV) (SE' : Store), tmF[d]? = some v → SE'.length = SE.length → (∀ j, j < S0.length → SE'[j]? = S0[j]?) →
          (∀ k, k < npre → b k = true → k ≠ i → SE'[S0.length + c k]? = SE[S0.length + c k]?) → (b i = true → SE'[S0.length + c i]? = some NF[c i]?) →
          Pre ops npre S0 tm0 tmF NF c b (listed.setIfInBounds i true) (tmE.set d v) SE' := by
        intro v SE' hv hsl hold hoth hmine
        refine ⟨by simpa using hpre.size, ?_, by simpa using hpre.len, ?_, ?_, by rw [hsl, hpre.slen], hold, ?_, ?_⟩
        · intro k hk hl
          rw [hset] at hl
          by_cases e : k = i
          · rw [e]; exact hinp
          · simp [e] at hl; exact hpre.below k hk (by simpa using hl)
        · intro k d' hk hl hdk
          rw [hset] at hl
          by_cases e : k = i
          · subst e
            rw [hdi] at hdk
            cases hdk
            rw [List.getElem?_set_self hdlen, hv]
          · have hne : d ≠ d' := by
              intro e2
              subst e2
              exact hc.uniq i o hinp ho k hk e (by rw [hdk, hd])
            rw [List.getElem?_set_ne hne]
            exact hpre.done k d' hk (by simpa [e] using hl) hdk
        · intro t ht
          have hne : d ≠ t := by
            intro e2
            subst e2
            exact ht i hinp (by rw [hset]; simp) hdi
          rw [List.getElem?_set_ne hne]
          exact hpre.todo t (fun k hk hl hdk => ht k hk (by rw [hset, hl]; simp) hdk)
        · intro k hk hb hl
          rw [hset] at hl
          by_cases e : k = i
          · subst e; exact hmine hb
          · rw [hoth k hk hb e]; exact hpre.made k hk hb (by simpa [e] using hl)
        · intro k hk hb hl
          rw [hset] at hl
          have e : k ≠ i := by intro e; simp [e] at hl
          rw [hoth k hk hb e]; exact hpre.free k hk hb (by simpa [e] using hl)
      unfold wpOp
      rw [ho]
      simp only
      rcases hcases with ⟨hbi, hg, hv⟩ | ⟨hbi, hg, φ, v, hop, hφ, hv, hvl⟩ | ⟨hbi, hg, f, args, v, hop, hdet, hv, hvl⟩ | ⟨hbi, hg, φ, ob, mk, hop, hφ, hv, hob, hobl⟩ | ⟨hbi, hg, f, args, r0, ob, hop, hdet, hsm, hv, hob, hobl⟩
      · rw [if_neg (by rw [gd_sound hr (by rw [hgE]; exact hg)]; simp)]
        have hp := hnext (.tup []) SE hv rfl hpre.old (fun _ _ _ _ => rfl) (fun h => by rw [hbi] at h; cases h)
        have hr' := hr.put o.dst (rep_undef ok w μ SE)
        rw [hd] at hr'
        rw [hd]
        exact ih _ _ _ μ _ w hp hclo' hfuel' hr'
      · rw [if_pos (gd_sound hr (by rw [hgE]; exact hg))]
        have hopE : opR (tiOf P) tmE SE o.op = .val φ v := by
          refine opF_of ?_ (by first | exact .inl ⟨_, _, rfl⟩ | exact .inr ⟨_, _, rfl⟩)
          have h1 := opF_more hmore o.op (T := tiOf P) (tm := tmF) (by rw [hop]; trivial)
          rw [hoE, h1, hop]
        obtain ⟨u, h1, h2⟩ := val_sound hr.rs hr.evs o hopE hφ
        refine .inl ?_
        unfold Oper.wp
        rw [h1]
        have hp := hnext v SE hv rfl hpre.old (fun _ _ _ _ => rfl) (fun h => by rw [hbi] at h; cases h)
        have hr' := hr.put o.dst h2
        rw [hd] at hr'
        simp only [Oper.upon_value, hd]
        exact ih _ _ _ μ _ w hp hclo' hfuel' hr'
      · rw [if_pos (gd_sound hr (by rw [hgE]; exact hg))]
        have hopE : opR (tiOf P) tmE SE o.op = .enter f args := by
          refine opF_of ?_ (by first | exact .inl ⟨_, _, rfl⟩ | exact .inr ⟨_, _, rfl⟩)
          have h1 := opF_more hmore o.op (T := tiOf P) (tm := tmF) (by rw [hop]; trivial)
          rw [hoE, h1, hop]
        have hfn := hdet SE hmore
        obtain ⟨vs, h1, hl, hrep⟩ := enter_sound hr o hopE hfn.1
        refine .inl ?_
        unfold Oper.wp
        rw [h1]
        simp only [Oper.upon_enter]
        refine (hfn.2 ok μ w vs (fun b hb => hr.fr b (Nat.le_trans hr.md.size hb)) hr.rs hl hrep).mono ?_
        rintro e w' ⟨r, vv, S', mv', μ', rfl, ⟨rfl, rfl, rfl⟩, rs', hr', md, lv, ln, mu⟩
        have hp := hnext r _ hv rfl hpre.old (fun _ _ _ _ => rfl) (fun h => by rw [hbi] at h; cases h)
        have hT := (hr.hop [] rs' md lv ln mu).put o.dst hr'
        simp only [scT, List.nil_append] at hT
        rw [hd] at hT
        simp only [hd]
        exact ih _ _ _ μ' _ w' hp hclo' hfuel' hT
      · rw [if_pos (gd_sound hr (by rw [hgE]; exact hg))]
        have hopE : opF (tiOf P) tmE SE o.op = .new φ ob mk := by
          have h1 := opF_more hmore o.op (T := tiOf P) (tm := tmF) (by rw [hop]; trivial)
          rw [hoE, h1, hop]
        obtain ⟨s, hm, he⟩ := newF_sound hr o hopE hφ
        obtain ⟨r, w', hrun, md, hz, hsiz, hb, hrep⟩ := hm
        have hfree := hpre.free i hinp hbi hi1
        have hid : S0.length ≤ S0.length + c i := Nat.le_add_right _ _
        have hclean : ∀ (t : Nat) (x : AV), tmE[t]? = some x → x.clean [S0.length + c i] := by
          intro t x hx
          by_cases h : ∃ k, k < npre ∧ listed.getD k false = true ∧ dstOf ops k = some t
          · obtain ⟨k, hk, hl, hdk⟩ := h
            rw [hpre.done k t hk hl hdk] at hx
            obtain ⟨ok', dk, hok, hdk', hck⟩ := hcert k hk
            have e := hdst k ok' dk hk hok hdk'
            rw [hdk] at e
            cases e
            rcases hck with ⟨_, _, h⟩ | ⟨_, _, φ', v', _, _, h, hl'⟩ | ⟨_, _, f', args', v', _, _, h, hl'⟩ | ⟨hbk, _, φ', ob', mk', hop', _, h, _⟩ | ⟨hbk, _, f', args', r', ob', hop', _, hsm', h, _⟩
            · rw [hx] at h; cases h; exact .tup _ (by simp)
            · rw [hx] at h; cases h; exact hl' _ hid
            · rw [hx] at h; cases h; exact hl' _ hid
            · rw [hx] at h; cases h
              refine opF_new_mk hop' _ _ ?_
              intro e
              have := hci k i hk hinp hbk hbi (by omega)
              subst this
              rw [hi1] at hl; cases hl
            · rw [hx] at h; cases h
              refine at_clean hsm' _ _ ?_
              intro e
              have := hci k i hk hinp hbk hbi (by omega)
              subst this
              rw [hi1] at hl; cases hl
          · rw [hpre.todo t (fun k hk hl hdk => h ⟨k, hk, hl, hdk⟩)] at hx
            exact hlt0 t x hx _ hid
        have hcl : ∀ (j : Nat) (o : AObj), SE[j]? = some (some o) → ∀ x ∈ o.es, ∀ y ∈ x.cells, y.clean [S0.length + c i] := by
          intro j oj hj x hx y hy
          rcases Nat.lt_or_ge j S0.length with h | h
          · rw [hpre.old j h] at hj
            exact hltS j oj hj x hx y hy _ hid
          · have hjl := (List.getElem?_eq_some_iff.1 hj).1
            rw [hpre.slen] at hjl
            obtain ⟨k, hk, hbk, hck⟩ := hcs (j - S0.length) (by omega)
            have hjk : j = S0.length + c k := by omega
            subst hjk
            cases hlk' : listed.getD k false with
            | false => rw [hpre.free k hk hbk hlk'] at hj; cases hj
            | true =>
              rw [hpre.made k hk hbk hlk'] at hj
              obtain ⟨_, _, _, _, hcc⟩ := hcert k hk
              rcases hcc with ⟨h, _⟩ | ⟨h, _⟩ | ⟨h, _⟩ | ⟨_, _, φ', ob', mk', _, _, _, hNF, hobl'⟩ | ⟨_, _, f', args', r', ob', _, _, _, _, hNF, hobl'⟩
              · rw [hbk] at h; cases h
              · rw [hbk] at h; cases h
              · rw [hbk] at h; cases h
              · rw [hNF] at hj
                cases hj
                exact hobl' x hx y hy _ hid
              · rw [hNF] at hj
                cases hj
                exact hobl' x hx y hy _ hid
        have hnew := hr.newAt (S0.length + c i) hfree (Nat.le_trans hSc hid) ob md hclean hcl hz hsiz (fun x hx y hy => hobl x hx y hy _ hid) hb
        have hmk : Rep ok w' (fun j => if j = S0.length + c i then w.heap.size else μ j) (SE.set (S0.length + c i) (some ob)) (mk (S0.length + c i)) r := by
          exact hrep _ _ _ (by rw [List.length_set]; exact (List.getElem?_eq_some_iff.1 hfree).1) (by simp)
        refine .inl ?_
        unfold Oper.wp
        rw [he, hrun]
        simp only [Result.andThen_ok, Oper.upon_value]
        have hcl' : S0.length + c i < SE.length := (List.getElem?_eq_some_iff.1 hfree).1
        have hp := hnext (mk (S0.length + c i)) (SE.set (S0.length + c i) (some ob)) hv (by simp) (fun j hj => by rw [List.getElem?_set_ne (by omega)]; exact hpre.old j hj)
          (fun k hk hbk hne => by rw [List.getElem?_set_ne (fun e => hne (hci k i hk hinp hbk hbi (by omega)))]) (fun _ => by rw [List.getElem?_set_self hcl', hob])
        have hT := hnew.put o.dst hmk
        rw [hd] at hT
        simp only [hd]
        exact ih _ _ _ _ _ w' hp hclo' hfuel' hT
      · rw [if_pos (gd_sound hr (by rw [hgE]; exact hg))]
        have hopE : opR (tiOf P) tmE SE o.op = .enter f args := by
          refine opF_of ?_ (by first | exact .inl ⟨_, _, rfl⟩ | exact .inr ⟨_, _, rfl⟩)
          have h1 := opF_more hmore o.op (T := tiOf P) (tm := tmF) (by rw [hop]; trivial)
          rw [hoE, h1, hop]
        have hfn := hdet SE hmore
        obtain ⟨vs, h1, hl, hrep⟩ := enter_sound hr o hopE hfn.1
        refine .inl ?_
        unfold Oper.wp
        rw [h1]
        simp only [Oper.upon_enter]
        refine (hfn.2 ok μ w vs (fun b hb => hr.fr b (Nat.le_trans hr.md.size hb)) hr.rs hl hrep).mono ?_
        rintro e w' ⟨r, vv, S', mv', μ', rfl, ⟨rfl, rfl, rfl⟩, rs', hr', md, lv, ln, mu⟩
        have hfree := hpre.free i hinp hbi hi1
        have hid : S0.length ≤ S0.length + c i := Nat.le_add_right _ _
        have hse : S0.length ≤ SE.length := by rw [hpre.slen]; omega
        have hclean : ∀ (t : Nat) (x : AV), tmE[t]? = some x → x.clean [S0.length + c i] := by
          intro t x hx
          by_cases h : ∃ k, k < npre ∧ listed.getD k false = true ∧ dstOf ops k = some t
          · obtain ⟨k, hk, hl, hdk⟩ := h
            rw [hpre.done k t hk hl hdk] at hx
            obtain ⟨ok', dk, hok, hdk', hck⟩ := hcert k hk
            have e := hdst k ok' dk hk hok hdk'
            rw [hdk] at e
            cases e
            rcases hck with ⟨_, _, h⟩ | ⟨_, _, φ', v', _, _, h, hl'⟩ | ⟨_, _, f', args', v', _, _, h, hl'⟩ | ⟨hbk, _, φ', ob', mk', hop', _, h, _⟩ | ⟨hbk, _, f', args', r', ob', hop', _, hsm', h, _⟩
            · rw [hx] at h; cases h; exact .tup _ (by simp)
            · rw [hx] at h; cases h; exact hl' _ hid
            · rw [hx] at h; cases h; exact hl' _ hid
            · rw [hx] at h; cases h
              refine opF_new_mk hop' _ _ ?_
              intro e
              have := hci k i hk hinp hbk hbi (by omega)
              subst this
              rw [hi1] at hl; cases hl
            · rw [hx] at h; cases h
              refine at_clean hsm' _ _ ?_
              intro e
              have := hci k i hk hinp hbk hbi (by omega)
              subst this
              rw [hi1] at hl; cases hl
          · rw [hpre.todo t (fun k hk hl hdk => h ⟨k, hk, hl, hdk⟩)] at hx
            exact hlt0 t x hx _ hid
        have hcl : ∀ (j : Nat) (o : AObj), SE[j]? = some (some o) → ∀ x ∈ o.es, ∀ y ∈ x.cells, y.clean [S0.length + c i, SE.length] := by
          intro j oj hj x hx y hy
          rcases Nat.lt_or_ge j S0.length with h | h
          · rw [hpre.old j h] at hj
            exact clean2 (hltS j oj hj x hx y hy) _ _ hid hse
          · have hjl := (List.getElem?_eq_some_iff.1 hj).1
            rw [hpre.slen] at hjl
            obtain ⟨k, hk, hbk, hck⟩ := hcs (j - S0.length) (by omega)
            have hjk : j = S0.length + c k := by omega
            subst hjk
            cases hlk' : listed.getD k false with
            | false => rw [hpre.free k hk hbk hlk'] at hj; cases hj
            | true =>
              rw [hpre.made k hk hbk hlk'] at hj
              obtain ⟨_, _, _, _, hcc⟩ := hcert k hk
              rcases hcc with ⟨h, _⟩ | ⟨h, _⟩ | ⟨h, _⟩ | ⟨_, _, φ', ob', mk', _, _, _, hNF, hobl'⟩ | ⟨_, _, f', args', r', ob', _, _, _, _, hNF, hobl'⟩
              · rw [hbk] at h; cases h
              · rw [hbk] at h; cases h
              · rw [hbk] at h; cases h
              · rw [hNF] at hj
                cases hj
                exact clean2 (hobl' x hx y hy) _ _ hid hse
              · rw [hNF] at hj
                cases hj
                exact clean2 (hobl' x hx y hy) _ _ hid hse
        have hcl' : S0.length + c i < SE.length := (List.getElem?_eq_some_iff.1 hfree).1
        obtain ⟨hnew, hlive⟩ := hr.madeAt (S0.length + c i) hfree (Nat.le_trans hSc hid) ob rs' md lv (fun j hj => mu j hj rfl) hclean hcl (fun x hx y hy => clean2 (hobl x hx y hy) _ _ hid hse)
        have hmk : Rep ok w' (fun j => if j = S0.length + c i then μ' SE.length else μ' j) (SE.set (S0.length + c i) (some ob)) (r0.at (S0.length + c i)) vv :=
          Rep.at hlive (by rw [List.length_set]; exact hcl') (by simp) hsm hr'
        have hp := hnext (r0.at (S0.length + c i)) (SE.set (S0.length + c i) (some ob)) hv (by simp) (fun j hj => by rw [List.getElem?_set_ne (by omega)]; exact hpre.old j hj)
          (fun k hk hbk hne => by rw [List.getElem?_set_ne (fun e => hne (hci k i hk hinp hbk hbi (by omega)))]) (fun _ => by rw [List.getElem?_set_self hcl', hob])
        have hT := hnew.put o.dst hmk
        rw [hd] at hT
        simp only [hd]
        exact ih _ _ _ _ _ w' hp hclo' hfuel' hT
theorem awp_draw2 {id : Nat} {ops : Array Oper} {Q : Exit → St → Prop} {st : St} (npre : Nat) (hm : P.follows .mixedOrders = true) (hc : chkDraw2 ops npre = true)
    (hd : (ops.toList.all fun o => match o.dst with | none => true | some d => decide (d < st.tm.length)) = true)
    (h : preP P ops st.S (ops.toList.take npre) st.tm [] (fun tm N => expP P ops (ops.size - npre) (listN npre ops.size) ⟨tm, st.S ++ N.map some, st.mv⟩ (fun st' => Q .normal st'))) : AWP P (.region id ops true) Q st := by
  intro ok w0 μ0 Sc μ a w hr
  have hck := chk2_spec hc
  obtain ⟨tmF, NF, hpe, hpost⟩ := preP_PE _ _ _ h
  have hnp := hck.le
  have htake : ∀ (k : Nat) (o : Oper), (ops.toList.take npre)[k]? = some o → k < npre ∧ ops[k]? = some o := by
    intro k o hk
    rw [List.getElem?_take] at hk
    split at hk
    · rename_i hlt; exact ⟨hlt, by simpa using hk⟩
    · cases hk
  have hlen : (ops.toList.take npre).length = npre := by rw [List.length_take, Array.length_toList]; omega
  rw [List.all_eq_true] at hd
  obtain ⟨c, b, h1, h2, h3, h4⟩ := hpe.cert (fun o ho d hdd => by
      have := hd o (List.mem_of_mem_take ho)
      rw [hdd] at this
      simpa using this)
    (fun k o hk t ht j o' hkj hj hdj => by
      obtain ⟨hkn, hko⟩ := htake k o hk
      obtain ⟨hjn, hjo⟩ := htake j o' hj
      obtain ⟨e, he, hej⟩ := hck.look k o hkn hko t ht j hjn (by simp [dstOf, hjo, hdj])
      have := (hck.back k o hkn hko e he).2
      omega)
    (fun k j o o' hk hj hne e => by
      obtain ⟨hkn, hko⟩ := htake k o hk
      obtain ⟨hjn, hjo⟩ := htake j o' hj
      exact hck.uniq k o hkn hko j hjn (fun e' => hne e'.symm) (by simp [dstOf, hjo, e]))
  rw [hlen] at h2 h3 h4
  obtain ⟨htl, hag, M, hM⟩ := hpe.agree
  refine wp_region_any hm ?_
  have hr1 := hr.drew.room NF.length
  have hz : ∀ k, (Array.replicate ops.size false).getD k false = false := by
    intro k
    rw [Array.getD_eq_getD_getElem?]
    simp [Array.getElem?_replicate]
    split <;> rfl
  refine pre_any2 hck (S0 := st.S) (tm0 := st.tm) (tmF := tmF) (NF := NF) (c := c) (b := b) (mv := st.mv) ?_ (fun k hk hb => (h2 k hk hb).2) (fun k j hk hj hbk hbj e => h3 k j hk hj hbk hbj e) (fun s hs => h4 s (Nat.zero_le _) hs) ?_ htl
    (fun t x ht => (hr.tm t x ht).lt) ?_ hr.ln (Q := fun ex a' w' => ∃ st' μ', Q ex st' ∧ RelT ok w0 μ0 Sc st' μ' a' w') (K := fun st' => Q .normal st') (fun st μ a w hk hr => ⟨st, μ, hk, hr⟩) hpost ops.size (Array.replicate ops.size false) st.tm (st.S ++ List.replicate NF.length none) μ a _ ?_ (fun k o _ hl => absurd ((hz k).symm.trans hl) (by simp)) ?_ hr1
  · intro k hk
    have hk' : (ops.toList.take npre)[k]? = some (ops[k]'(by omega)) := by rw [List.getElem?_take, if_pos hk]; simp [show k < ops.size by omega]
    obtain ⟨d, hcert⟩ := h1 k _ hk'
    exact ⟨ops[k]'(by omega), d, Array.getElem?_eq_getElem (by omega), hcert⟩
  · intro t ht
    refine hag t fun o ho e => ?_
    obtain ⟨k, hk, rfl⟩ := List.mem_iff_getElem.1 ho
    obtain ⟨hkn, hko⟩ := htake k _ (List.getElem?_eq_getElem hk)
    exact ht k hkn (by unfold dstOf; rw [hko]; exact e)
  · intro j o hj x hx y hy
    obtain ⟨k, hk, rfl⟩ := List.mem_iff_getElem.1 hx
    obtain ⟨i, hi, rfl⟩ := List.mem_iff_getElem.1 hy
    have hne : o.es ≠ [] := by intro e; simp [e] at hk
    obtain ⟨cs, ty, hb, hs, hcc⟩ := hr.rs.blk j o hj hne
    obtain ⟨v, hv, hrep⟩ := hcc k _ i _ (List.getElem?_eq_getElem hk) (List.getElem?_eq_getElem hi)
    exact hrep.lt
  · refine ⟨by simp, fun k _ hl => absurd ((hz k).symm.trans hl) (by simp), htl.symm, fun k d _ hl => absurd ((hz k).symm.trans hl) (by simp), fun t _ => rfl, by simp, fun i hi => List.getElem?_append_left hi, fun k _ _ hl => absurd ((hz k).symm.trans hl) (by simp), fun k hk hb _ => ?_⟩
    rw [List.getElem?_append_right (by omega), List.getElem?_replicate, if_pos (by have := (h2 k hk hb).2; omega)]
  · rw [count_range _ _ (fun _ => true) (fun k _ => by rw [hz]; rfl), List.filter_eq_self.2 (fun _ _ => rfl), List.length_range]
theorem exp_end {ops : Array Oper} {f : Nat} {listed : Array Bool} {st : St} {K : St → Prop} (hr : Region.ready .any ops listed = []) (h : K st) : expP P ops f listed st K := by
  cases f with
  | zero => exact ⟨hr, h⟩
  | succ f => exact ⟨fun _ => h, fun i hi => by rw [hr] at hi; simp at hi⟩
theorem exp_one {ops : Array Oper} {f : Nat} {listed : Array Bool} {st : St} {K : St → Prop} (i : Nat) (hr : Region.ready .any ops listed = [i]) (h : stepE P ops ops[i]? st (fun st' => expP P ops f (listed.setIfInBounds i true) st' K)) : expP P ops (f + 1) listed st K :=
  ⟨fun h0 => (by rw [hr] at h0; cases h0), fun k hk => (by rw [hr] at hk; obtain rfl := List.mem_singleton.1 hk; exact h)⟩
theorem exp_two {ops : Array Oper} {f : Nat} {listed : Array Bool} {st : St} {K : St → Prop} (i j : Nat) (hr : Region.ready .any ops listed = [i, j]) (h1 : stepE P ops ops[i]? st (fun st' => expP P ops f (listed.setIfInBounds i true) st' K))
    (h2 : stepE P ops ops[j]? st (fun st' => expP P ops f (listed.setIfInBounds j true) st' K)) : expP P ops (f + 1) listed st K :=
  ⟨fun h0 => (by rw [hr] at h0; cases h0), fun k hk => by
    rw [hr] at hk
    simp only [List.mem_cons, List.not_mem_nil, or_false] at hk
    rcases hk with rfl | rfl
    · exact h1
    · exact h2⟩
theorem cp_draw2 {id : Nat} {ops : List Oper} {Q : Exit → St → Prop} {tm : List AV} {S : Store} {mv : List Nat} (npre nf : Nat) (hm : P.follows .mixedOrders = true) (hc : chkDraw2 ops.toArray npre = true)
    (hd : (ops.all fun o => match o.dst with | none => true | some d => decide (d < tm.length)) = true) (hf : ops.toArray.size - npre = nf)
    (h : preP P ops.toArray S (ops.take npre) tm [] (fun tm N => expP P ops.toArray nf (listN npre ops.toArray.size) ⟨tm, S ++ N.map some, mv⟩ (fun st' => Q .normal st'))) : codeP P (.region id ops.toArray true) Q ⟨tm, S, mv⟩ := by
  subst hf
  exact awp_draw2 npre hm hc hd h
@[go_sem] theorem stepE_some {ops : Array Oper} {d : Option Tmp} {op : Op} {ty : TypeId} {ps : String} {af : Array Edge} {tm : List AV} {S : Store} {mv : List Nat} {K : St → Prop} :
    stepE P ops (some ⟨d, op, ty, ps, af, none⟩) ⟨tm, S, mv⟩ K = afterR P (opR (tiOf P) tm S op) d ⟨tm, S, mv⟩ K := rfl
theorem stepE_congr {ops : Array Oper} {o o' : Option Oper} {st : St} {K : St → Prop} (h : o = o') : stepE P ops o st K = stepE P ops o' st K := by rw [h]
end
end
section
section
variable {P : Program} {ops : Array Oper} {Inv : Store → Prop}
/-- One operation: a value, a new object, a store; no call. -/
def stepH (P : Program) (ops : Array Oper) (o : Option Oper) (st : St) (K : St → Prop) : Prop := match o with
  | none => K st
  | some o => match gd ops st.tm o with
    | none => False
    | some false => K (st.put o.dst (.tup []))
    | some true => match opR (tiOf P) st.tm st.S o.op with
      | .val φ v => φ ∧ K (st.put o.dst v)
      | .new φ ob mk => φ ∧ K (St.put ⟨st.tm, st.S ++ [some ob], st.mv⟩ o.dst (mk st.S.length))
      | .set φ i ob => φ ∧ K (St.put ⟨st.tm, st.S.set i (some ob), st.mv⟩ o.dst (.tup []))
      | _ => False
theorem stepE_of_H {o : Option Oper} {st : St} {K : St → Prop} (h : stepH P ops o st K) : stepE P ops o st K := by
  cases o with
  | none => exact h
  | some o =>
    simp only [stepH, stepE] at h ⊢
    split at h
    · exact h.elim
    · rename_i hg; rw [hg]; exact h
    · rename_i hg
      rw [hg]
      simp only [stepP]
      split at h <;> first | exact h.elim | (rename_i hr; rw [hr]; exact h)
theorem stepH_mono {o : Option Oper} {st : St} {K K' : St → Prop} (hk : ∀ st, K st → K' st) (h : stepH P ops o st K) : stepH P ops o st K' := by
  cases o with
  | none => exact hk _ h
  | some o =>
    simp only [stepH] at h ⊢
    split at h
    · exact h.elim
    · exact hk _ h
    · split at h <;> first | exact h.elim | exact ⟨h.1, hk _ h.2⟩
/-- Whatever order is picked, and Inv holds of the objects behind every operation. -/
def expH (P : Program) (ops : Array Oper) (Inv : Store → Prop) : Nat → Array Bool → St → (St → Prop) → Prop
  | 0, listed, st, K => Region.ready .any ops listed = [] ∧ K st
  | f + 1, listed, st, K => (Region.ready .any ops listed = [] → K st) ∧ ∀ i ∈ Region.ready .any ops listed, stepH P ops ops[i]? st (fun st' => Inv st'.S ∧ expH P ops Inv f (listed.setIfInBounds i true) st' K)
theorem expP_of_H {K : St → Prop} : ∀ (f : Nat) (listed : Array Bool) (st : St), expH P ops Inv f listed st K → expP P ops f listed st K
  | 0, _, _, h => h
  | f + 1, listed, st, h => ⟨h.1, fun i hi => stepE_of_H (stepH_mono (fun st' h' => expP_of_H f _ st' h'.2) (h.2 i hi))⟩
/-- In whatever store that meets Inv the operation leaves v. -/
def YieldH (P : Program) (ops : Array Oper) (Inv : Store → Prop) (o : Oper) (v : AV) (tm : List AV) : Prop :=
  (gd ops tm o = some true ∧ ∀ S, Inv S → ∃ φ, opR (tiOf P) tm S o.op = .val φ v ∧ φ) ∨ (gd ops tm o = some false ∧ v = .tup [])
theorem set_get {tm : List AV} {d t : Nat} {v : AV} (h : d ≠ t) : (tm.set d v)[t]? = tm[t]? := by rw [List.getElem?_set_ne h]
theorem YieldH.same {o : Oper} {v : AV} {tm tm' : List AV} (hy : YieldH P ops Inv o v tm) (h : ∀ t ∈ o.looksAt ops, tm'[t]? = tm[t]?) : YieldH P ops Inv o v tm' := by
  rcases hy with ⟨hg, hv⟩ | ⟨hg, e⟩
  · refine .inl ⟨by rw [gd_eq h]; exact hg, fun S hS => ?_⟩
    rw [opR_eq h]
    exact hv S hS
  · exact .inr ⟨by rw [gd_eq h]; exact hg, e⟩
theorem stepH_yield {o : Oper} {v : AV} {st : St} {K : St → Prop} (hy : YieldH P ops Inv o v st.tm) (hS : Inv st.S) (h : K (st.put o.dst v)) : stepH P ops (some o) st K := by
  rcases hy with ⟨hg, hv⟩ | ⟨hg, rfl⟩
  · obtain ⟨φ, h1, h2⟩ := hv _ hS
    simp only [stepH, hg, h1]
    exact ⟨h2, h⟩
  · simp only [stepH, hg]
    exact h
theorem stepH_put {oi oj : Oper} {v : AV} {d : Tmp} (hd : oi.dst = some d) (hap : oi.apart ops oj = true) {K : St → Prop} {st : St} (hy : YieldH P ops Inv oi v st.tm)
    (h : stepH P ops (some oj) (st.put (some d) v) K) : stepH P ops (some oj) st (fun st' => YieldH P ops Inv oi v st'.tm ∧ K (st'.put (some d) v)) := by
  obtain ⟨h1, h2, h3⟩ := Oper.apart_spec hap
  have hl : ∀ t ∈ oj.looksAt ops, (st.put (some d) v).tm[t]? = st.tm[t]? := fun t ht => set_get (fun e => h1 d hd (by rw [e]; exact ht))
  have keep : ∀ (tm : List AV), YieldH P ops Inv oi v tm → ∀ (S : Store) (mv : List Nat) (u : AV), YieldH P ops Inv oi v (St.put ⟨tm, S, mv⟩ oj.dst u).tm := by
    intro tm hy S mv u
    cases e : oj.dst with
    | none => exact hy
    | some t => exact hy.same (fun t' ht' => set_get (fun e' => h3 t e (by rw [e']; exact ht')))
  have comm : ∀ (S : Store) (mv : List Nat) (u : AV), St.put (St.put ⟨st.tm, S, mv⟩ (some d) v) oj.dst u = St.put (St.put ⟨st.tm, S, mv⟩ oj.dst u) (some d) v := by
    intro S mv u
    cases e : oj.dst with
    | none => rfl
    | some t =>
      simp only [St.put]
      rw [List.set_comm _ _ (fun e' => h2 d hd (by rw [e, e']))]
  have hg : gd ops (st.put (some d) v).tm oj = gd ops st.tm oj := gd_eq hl
  have ho : opR (tiOf P) (st.put (some d) v).tm (st.put (some d) v).S oj.op = opR (tiOf P) st.tm st.S oj.op := opR_eq hl
  simp only [stepH] at h ⊢
  rw [hg] at h
  split at h
  · exact h.elim
  · exact ⟨keep _ hy _ _ _, by rw [← comm]; exact h⟩
  · rw [ho] at h
    split at h
    · exact ⟨h.1, keep _ hy _ _ _, by rw [← comm]; exact h.2⟩
    · exact ⟨h.1, keep _ hy _ _ _, by rw [← comm]; exact h.2⟩
    · exact ⟨h.1, keep _ hy _ _ _, by rw [← comm]; exact h.2⟩
    · exact h.elim
theorem expH_first {K : St → Prop} {i : Nat} {oi : Oper} {v : AV} {d : Tmp} (hi : ops[i]? = some oi) (hd : oi.dst = some d) :
    ∀ (f : Nat) (listed : Array Bool) (st : St),
      (∀ j oj, ops[j]? = some oj → j ≠ i → listed.getD j true = false → (∀ e ∈ oj.after, Region.binds .any e = true → e.on ≠ i) → oi.apart ops oj = true) →
      i ∈ Region.ready .any ops listed → YieldH P ops Inv oi v st.tm → Inv st.S →
      expH P ops Inv f (listed.setIfInBounds i true) (st.put (some d) v) K → expH P ops Inv (f + 1) listed st K := by
  intro f
  induction f with
  | zero =>
    intro listed st _ hr hy hS H
    refine ⟨fun h => (by rw [h] at hr; cases hr), fun j hj => ?_⟩
    by_cases hji : j = i
    · subst hji; rw [hi]; exact stepH_yield hy hS ⟨by rw [hd]; exact hS, by rw [hd]; exact H⟩
    · have := ready_mono hj hji
      rw [H.1] at this
      cases this
  | succ f ih =>
    intro listed st hfree hr hy hS H
    refine ⟨fun h => (by rw [h] at hr; cases hr), fun j hj => ?_⟩
    by_cases hji : j = i
    · subst hji; rw [hi]; exact stepH_yield hy hS ⟨by rw [hd]; exact hS, by rw [hd]; exact H⟩
    · have h1 := H.2 j (ready_mono hj hji)
      obtain ⟨hjun, oj, hoj, hall⟩ := mem_ready.1 hj
      have hnot : ∀ e ∈ oj.after, Region.binds .any e = true → e.on ≠ i := fun e he hb heq => by
        have h1 := hall e he hb
        have h0 := (mem_ready.1 hr).1
        rw [heq] at h1
        rcases Nat.lt_or_ge i listed.size with h' | h'
        · simp [h'] at h0 h1; rw [h0] at h1; cases h1
        · simp [Array.getElem?_eq_none h'] at h1
      rw [hoj] at h1 ⊢
      have h2 := stepH_put hd (hfree j oj hoj hji hjun hnot) hy h1
      have hfree' : ∀ k ok, ops[k]? = some ok → k ≠ i → (listed.setIfInBounds j true).getD k true = false →
          (∀ e ∈ ok.after, Region.binds .any e = true → e.on ≠ i) → oi.apart ops ok = true := fun k ok hk hki hun hno => by
        refine hfree k ok hk hki ?_ hno
        by_cases hjk : j = k
        · subst hjk; exact hjun
        · rw [getD_set_ne true hjk] at hun; exact hun
      refine stepH_mono (fun st' h3 => ⟨h3.2.1, ih (listed.setIfInBounds j true) st' hfree' (ready_mono hr (Ne.symm hji)) h3.1 h3.2.1 ?_⟩) h2
      rw [Array.setIfInBounds_comm _ _ hji]
      exact h3.2.2
theorem expH_take {K : St → Prop} {f : Nat} {listed : Array Bool} {tm : List AV} {S : Store} {mv : List Nat} (i : Nat) (oi : Oper) (v : AV) (d : Tmp) (hi : ops[i]? = some oi) (hd : oi.dst = some d) (hf : Region.free .any ops listed i = true)
    (hr : (Region.ready .any ops listed).contains i = true) (hS : Inv S) (hy : YieldH P ops Inv oi v tm) (h : expH P ops Inv f (listed.setIfInBounds i true) ⟨tm.set d v, S, mv⟩ K) : expH P ops Inv (f + 1) listed ⟨tm, S, mv⟩ K :=
  expH_first hi hd f listed ⟨tm, S, mv⟩ (Region.free_spec hi hf) (by simpa using hr) hy hS h
/-- The operation leaves v. -/
def yieldR (r : OpR) (v : AV) : Prop := match r with
  | .val φ u => φ ∧ u = v
  | _ => False
@[go_sem] theorem yieldR_val {φ : Prop} {u v : AV} : yieldR (.val φ u) v = (φ ∧ u = v) := rfl
theorem yieldR_congr {r r' : OpR} {v : AV} (h : r = r') : yieldR r v = yieldR r' v := by rw [h]
theorem expH_get {K : St → Prop} {f : Nat} {listed : Array Bool} {tm : List AV} {S : Store} {mv : List Nat} {op : Op} {ty : TypeId} {ps : String} {af : Array Edge} {d : Tmp} (i : Nat) (v : AV) (hi : ops[i]? = some ⟨some d, op, ty, ps, af, none⟩) (hf : Region.free .any ops listed i = true)
    (hr : (Region.ready .any ops listed).contains i = true) (hS : Inv S) (hy : ∀ S, Inv S → yieldR (opR (tiOf P) tm S op) v) (h : expH P ops Inv f (listed.setIfInBounds i true) ⟨tm.set d v, S, mv⟩ K) : expH P ops Inv (f + 1) listed ⟨tm, S, mv⟩ K := by
  refine expH_take i _ v d hi rfl hf hr hS (.inl ⟨rfl, fun S hS => ?_⟩) h
  have := hy S hS
  unfold yieldR at this
  split at this
  · rename_i φ u hr
    exact ⟨φ, by rw [hr, this.2], this.1⟩
  · exact this.elim
theorem expH_end {K : St → Prop} {f : Nat} {listed : Array Bool} {st : St} (hr : Region.ready .any ops listed = []) (h : K st) : expH P ops Inv f listed st K := by
  cases f with
  | zero => exact ⟨hr, h⟩
  | succ f => exact ⟨fun _ => h, fun i hi => by rw [hr] at hi; simp at hi⟩
theorem expH_one {K : St → Prop} {f : Nat} {listed : Array Bool} {st : St} (i : Nat) (hr : Region.ready .any ops listed = [i]) (h : stepH P ops ops[i]? st (fun st' => Inv st'.S ∧ expH P ops Inv f (listed.setIfInBounds i true) st' K)) : expH P ops Inv (f + 1) listed st K :=
  ⟨fun h0 => (by rw [hr] at h0; cases h0), fun k hk => (by rw [hr] at hk; obtain rfl := List.mem_singleton.1 hk; exact h)⟩
theorem expH_two {K : St → Prop} {f : Nat} {listed : Array Bool} {st : St} (i j : Nat) (hr : Region.ready .any ops listed = [i, j]) (h1 : stepH P ops ops[i]? st (fun st' => Inv st'.S ∧ expH P ops Inv f (listed.setIfInBounds i true) st' K))
    (h2 : stepH P ops ops[j]? st (fun st' => Inv st'.S ∧ expH P ops Inv f (listed.setIfInBounds j true) st' K)) : expH P ops Inv (f + 1) listed st K :=
  ⟨fun h0 => (by rw [hr] at h0; cases h0), fun k hk => by
    rw [hr] at hk
    simp only [List.mem_cons, List.not_mem_nil, or_false] at hk
    rcases hk with rfl | rfl
    · exact h1
    · exact h2⟩
/-- No call, no append. -/
def nc (r : OpR) : Bool := match r with
  | .val _ _ => true
  | .new _ _ _ => true
  | .set _ _ _ => true
  | _ => false
@[go_sem] theorem nc_val {φ : Prop} {u : AV} : nc (.val φ u) = true := rfl
@[go_sem] theorem nc_new {φ : Prop} {ob : AObj} {mk : Nat → AV} : nc (.new φ ob mk) = true := rfl
@[go_sem] theorem nc_set {φ : Prop} {ob : AObj} {i : Nat} : nc (.set φ i ob) = true := rfl
theorem nc_congr {r r' : OpR} (h : r = r') : nc r = nc r' := by rw [h]
theorem stepH_after {op : Op} {ty : TypeId} {ps : String} {af : Array Edge} {d : Option Tmp} {st : St} {K : St → Prop} (hn : nc (opR (tiOf P) st.tm st.S op) = true) (h : afterR P (opR (tiOf P) st.tm st.S op) d st K) : stepH P ops (some ⟨d, op, ty, ps, af, none⟩) st K := by
  simp only [stepH, gd]
  generalize opR (tiOf P) st.tm st.S op = r at hn h
  cases r <;> simp only [nc] at hn <;> first | (cases hn; done) | exact h
theorem expH_go {K : St → Prop} {f : Nat} {listed : Array Bool} {tm : List AV} {S : Store} {mv : List Nat} {op : Op} {ty : TypeId} {ps : String} {af : Array Edge} {d : Option Tmp} (i : Nat) (hi : ops[i]? = some ⟨d, op, ty, ps, af, none⟩) (hr : Region.ready .any ops listed = [i])
    (hn : nc (opR (tiOf P) tm S op) = true) (h : afterR P (opR (tiOf P) tm S op) d ⟨tm, S, mv⟩ (fun st' => Inv st'.S ∧ expH P ops Inv f (listed.setIfInBounds i true) st' K)) : expH P ops Inv (f + 1) listed ⟨tm, S, mv⟩ K :=
  expH_one i hr (by rw [hi]; exact stepH_after hn h)
theorem expH_go2 {K : St → Prop} {f : Nat} {listed : Array Bool} {tm : List AV} {S : Store} {mv : List Nat} {op op' : Op} {ty ty' : TypeId} {ps ps' : String} {af af' : Array Edge} {d d' : Option Tmp} (i j : Nat) (hi : ops[i]? = some ⟨d, op, ty, ps, af, none⟩) (hj : ops[j]? = some ⟨d', op', ty', ps', af', none⟩)
    (hr : Region.ready .any ops listed = [i, j]) (hn : nc (opR (tiOf P) tm S op) = true) (hn' : nc (opR (tiOf P) tm S op') = true)
    (h : afterR P (opR (tiOf P) tm S op) d ⟨tm, S, mv⟩ (fun st' => Inv st'.S ∧ expH P ops Inv f (listed.setIfInBounds i true) st' K))
    (h' : afterR P (opR (tiOf P) tm S op') d' ⟨tm, S, mv⟩ (fun st' => Inv st'.S ∧ expH P ops Inv f (listed.setIfInBounds j true) st' K)) : expH P ops Inv (f + 1) listed ⟨tm, S, mv⟩ K :=
  expH_two i j hr (by rw [hi]; exact stepH_after hn h) (by rw [hj]; exact stepH_after hn' h')
theorem cp_drawH {id : Nat} {ops : List Oper} {Q : Exit → St → Prop} {tm : List AV} {S : Store} {mv : List Nat} (n : Nat) (Inv : Store → Prop) (hm : P.follows .mixedOrders = true) (hn : ops.toArray.size = n)
    (h : expH P ops.toArray Inv n (Array.replicate n false) ⟨tm, S, mv⟩ (fun st' => Q .normal st')) : codeP P (.region id ops.toArray true) Q ⟨tm, S, mv⟩ := by
  subst hn
  intro ok w0 μ0 Sc μ a w hr
  exact wp_region_any hm (exp_any (fun st μ a w hk hr => ⟨st, μ, hk, hr⟩) _ _ _ μ a _ (expP_of_H _ _ _ h) hr.drew)
end
end
section
theorem Rep.okmono {ok ok' : Nat → Prop} {w : World} {μ : Nat → Nat} {S : Store} (hk : ∀ b, ok b → ¬ liveB S μ b → ok' b) {x : AV} {v : Value} (h : Rep ok w μ S x v) : Rep ok' w μ S x v := by
  have hd : ∀ {d : D} {u : Value}, RepD w (fun b => ok b ∧ ¬ liveB S μ b) d u → RepD w (fun b => ok' b ∧ ¬ liveB S μ b) d u := fun h =>
    h.mono (fun _ _ _ hc => hc) (fun ad u hl _ => ⟨hk _ hl.1 hl.2, hl.2⟩)
  induction h with
  | prim v h1 => exact .prim v h1
  | sl z xs v h => exact .sl z xs v (hd h)
  | agg xs vs hl hs h ih => exact .agg xs vs hl hs ih
  | tup xs vs hl h ih => exact .tup xs vs hl ih
  | ro xs ad f hsp hne hb h1 h2 => exact .ro xs ad f hsp hne ⟨hk _ hb.1 hb.2, hb.2⟩ h1 (fun j y hj => hd (h2 j y hj))
  | ref i z k sub hi => exact .ref i z k sub hi
  | own0 i z off A hi => exact .own0 i z off A hi
  | own i z off len c cs ty hi h0 hc hb hsz => exact .own i z off len c cs ty hi h0 hc hb hsz
  | clo g caps vs hl h ih => exact .clo g caps vs hl ih
  | junk v h1 => exact .junk v h1
  | any v => exact .any v
theorem RelS.okmono {ok ok' : Nat → Prop} {w : World} {μ : Nat → Nat} {S : Store} (hk : ∀ b, ok b → ¬ liveB S μ b → ok' b) (h : RelS ok w μ S) : RelS ok' w μ S :=
  ⟨fun i o hi hne => by
    obtain ⟨cs, ty, h1, h2, h3⟩ := h.blk i o hi hne
    exact ⟨cs, ty, h1, h2, fun k x j y hk' hj => by obtain ⟨v, a, b⟩ := h3 k x j y hk' hj; exact ⟨v, a, b.okmono hk⟩⟩, h.siz, h.inj⟩
/-- The objects K of a store, renumbered. -/
theorem relS_keep {ok : Nat → Prop} {w : World} {μ : Nat → Nat} {S S' : Store} {K : List Nat} (hn : K.Nodup) (hl : S'.length = K.length)
    (hS : ∀ (j i : Nat), K[j]? = some i → ∃ (o o' : AObj), S[i]? = some (some o) ∧ S'[j]? = some (some o') ∧ o'.z = o.z ∧ All2 (Rn1 K) o.es o'.es)
    (rs : RelS ok w μ S) {μ' : Nat → Nat} (hμ : ∀ (j i : Nat), K[j]? = some i → μ' j = μ i) : RelS ok w μ' S' ∧ (∀ b, liveB S' μ' b → liveB S μ b) := by
  have hget : ∀ (j : Nat) (o' : AObj), S'[j]? = some (some o') → ∃ i o, K[j]? = some i ∧ S[i]? = some (some o) ∧ o'.z = o.z ∧ All2 (Rn1 K) o.es o'.es := by
    intro j o' hj
    have hjl : j < K.length := by rw [← hl]; exact (List.getElem?_eq_some_iff.1 hj).1
    obtain ⟨o, o2, h1, h2, h3, h4⟩ := hS j K[j] (List.getElem?_eq_getElem hjl)
    rw [hj] at h2
    cases h2
    exact ⟨K[j], o, List.getElem?_eq_getElem hjl, h1, h3, h4⟩
  have hne : ∀ {o o' : AObj}, All2 (Rn1 K) o.es o'.es → o'.es ≠ [] → o.es ≠ [] := by
    intro o o' h hne e
    have := h.len
    rw [e] at this
    exact hne (List.eq_nil_of_length_eq_zero this)
  have hlv : ∀ b, liveB S' μ' b → liveB S μ b := by
    rintro b ⟨j, o', hj, hne', rfl⟩
    obtain ⟨i, o, hi, ho, hz, hes⟩ := hget j o' hj
    exact ⟨i, o, ho, hne hes hne', (hμ j i hi).symm⟩
  refine ⟨⟨?_, ?_, ?_⟩, hlv⟩
  · intro j o' hj hne'
    obtain ⟨i, o, hi, ho, hz, hes⟩ := hget j o' hj
    obtain ⟨cs, ty, hb, hs, hc⟩ := rs.blk i o ho (hne hes hne')
    refine ⟨cs, ty, by rw [hμ j i hi]; exact hb, by rw [hes.len, hz]; exact hs, fun k x' jj y' hk hjj => ?_⟩
    obtain ⟨x, hx, hxr⟩ := hes.get k x' hk
    obtain ⟨y, hy, hyr⟩ := (hxr.cells ((rs.siz i o ho).2 x (List.mem_of_getElem? hx)).2).2 jj y' hjj
    obtain ⟨u, hu, hrep⟩ := hc k x jj y hx hy
    exact ⟨u, by rw [hz]; exact hu, hyr.sound hlv hl hμ hrep⟩
  · intro j o' hj
    obtain ⟨i, o, hi, ho, hz, hes⟩ := hget j o' hj
    obtain ⟨h1, h2⟩ := rs.siz i o ho
    refine ⟨by rw [hz]; exact h1, fun x' hx' => ?_⟩
    obtain ⟨k, hk, rfl⟩ := List.mem_iff_getElem.1 hx'
    obtain ⟨x, hx, hxr⟩ := hes.get k _ (List.getElem?_eq_getElem hk)
    have hx2 := h2 x (List.mem_of_getElem? hx)
    obtain ⟨c1, c2⟩ := hxr.cells hx2.2
    refine ⟨by rw [c1, hz]; exact hx2.1, fun y' hy' => ?_⟩
    obtain ⟨jj, hjj, rfl⟩ := List.mem_iff_getElem.1 hy'
    obtain ⟨y, hy, hyr⟩ := c2 jj _ (List.getElem?_eq_getElem hjj)
    rw [hyr.sca]
    exact hx2.2 y (List.mem_of_getElem? hy)
  · intro j j' oj oj' hj hj' hnj hnj' e
    obtain ⟨i, o, hi, ho, hz, hes⟩ := hget j oj hj
    obtain ⟨i', o2, hi', ho', hz', hes'⟩ := hget j' oj' hj'
    rw [hμ j i hi, hμ j' i' hi'] at e
    have := rs.inj i i' o o2 ho ho' (hne hes hnj) (hne hes' hnj') e
    subst this
    have hjl := (List.getElem?_eq_some_iff.1 hi)
    have hjl' := (List.getElem?_eq_some_iff.1 hi')
    exact (List.getElem_inj hn).1 (hjl.2.trans hjl'.2.symm)
/-- The end of a function that was handed objects: it hands on the objects K; 'mv'' names those of the caller's that lie elsewhere now. -/
theorem fin_move (K : List Nat) (mv' : List Nat) {n0 : Nat} {r r' : AV} {S S' : Store} {mv : List Nat} {Q : AV → Store → List Nat → Prop} (hn : K.Nodup) (hl : S'.length = K.length) (hn0 : n0 ≤ K.length)
    (hS : ∀ (j i : Nat), K[j]? = some i → ∃ (o o' : AObj), getO S i = some o ∧ S'[j]? = some (some o') ∧ o'.z = o.z ∧ All2 (Rn1 K) o.es o'.es)
    (hm : ∀ i, i < n0 → mv'.contains i = false → K[i]? = some i ∧ mv.contains i = false)
    (hr : RnT K r r') (h : Q r' S' mv') : Fin n0 r S mv Q := by
  refine ⟨r', S', mv', h, ?_⟩
  intro ok w0 μ0 S0 μ a w v tm h0 hrel hv
  let μ' : Nat → Nat := fun j => μ (K.getD j 0)
  have hμ : ∀ (j i : Nat), K[j]? = some i → μ' j = μ i := fun j i hj => by simp [μ', List.getD, hj]
  obtain ⟨h1, h2⟩ := relS_keep hn hl (fun j i hj => by obtain ⟨o, o', a, b⟩ := hS j i hj; exact ⟨o, o', getO_some a, b⟩) hrel.rs hμ
  refine ⟨μ', h1, hr.sound h2 hl hμ hv, fun b hb hl' => hrel.lv b hb (h2 b hl'), by omega, fun i hi hc => ?_⟩
  obtain ⟨a1, a2⟩ := hm i (by omega) hc
  rw [hμ i i a1]
  exact hrel.mu i hi a2
def AV.rn0 (ρ : Nat → Nat) : AV → AV
  | .ref i z k sub => .ref (ρ i) z k sub
  | .own i z off len => .own (ρ i) z off len
  | .clo _ _ => .junk
  | x => x
def AV.rn1 (ρ : Nat → Nat) : AV → AV
  | .agg xs => .agg (xs.map (AV.rn0 ρ))
  | .tup _ => .any
  | x => x.rn0 ρ
def AV.rn (ρ : Nat → Nat) : AV → AV
  | .tup xs => .tup (xs.map (AV.rn1 ρ))
  | x => x.rn1 ρ
section
variable {ok ok' : Nat → Prop} {w : World} {μ μ' : Nat → Nat} {S S' : Store} {ρ : Nat → Nat} (hρ : ∀ i, i < S.length → μ' (ρ i) = μ i ∧ ρ i < S'.length) (hsl : ∀ b, ok b → ¬ liveB S μ b → ok' b ∧ ¬ liveB S' μ' b)
include hρ hsl
theorem Rep.rn0 {x : AV} {v : Value} (h : Rep ok w μ S x v) (hs : x.scalar = true) : Rep ok' w μ' S' (x.rn0 ρ) v ∧ (x.rn0 ρ).scalar = true := by
  have hd : ∀ {d : D} {u : Value}, RepD w (fun b => ok b ∧ ¬ liveB S μ b) d u → RepD w (fun b => ok' b ∧ ¬ liveB S' μ' b) d u := fun h =>
    h.mono (fun _ _ _ hc => hc) (fun ad u hl _ => hsl _ hl.1 hl.2)
  have hone := h.one hs
  cases h with
  | prim v h1 => exact ⟨.prim v h1, rfl⟩
  | sl z xs v h => exact ⟨.sl z xs v (hd h), rfl⟩
  | agg => simp [AV.scalar] at hs
  | tup => simp [AV.scalar] at hs
  | any => simp [AV.scalar] at hs
  | ro xs ad f hsp hne hb h1 h2 => exact ⟨.ro xs ad f hsp hne (hsl _ hb.1 hb.2) h1 (fun j y hj => hd (h2 j y hj)), rfl⟩
  | ref i z k sub hi =>
    obtain ⟨e, hl⟩ := hρ i hi
    rw [← e]
    exact ⟨.ref _ z k sub hl, rfl⟩
  | own0 i z off A hi => exact ⟨.own0 _ z off A (hρ i hi).2, rfl⟩
  | own i z off len c cs ty hi h0 hc hb hsz =>
    obtain ⟨e, hl⟩ := hρ i hi
    rw [← e] at hb ⊢
    exact ⟨.own _ z off len c cs ty hl h0 hc hb hsz, rfl⟩
  | clo g caps vs hl h => exact ⟨.junk _ hone, rfl⟩
  | junk v h1 => exact ⟨.junk v h1, rfl⟩
theorem Rep.rn1 {x : AV} {v : Value} (h : Rep ok w μ S x v) : Rep ok' w μ' S' (x.rn1 ρ) v := by
  cases x with
  | agg xs =>
    cases h with
    | agg _ vs hl hs h =>
      refine .agg _ vs (by simpa using hl) ?_ ?_
      · intro y hy
        obtain ⟨x, hx, rfl⟩ := List.mem_map.1 hy
        obtain ⟨j, hj, rfl⟩ := List.mem_iff_getElem.1 hx
        exact (Rep.rn0 hρ hsl (h j _ (vs[j]'(by omega)) (List.getElem?_eq_getElem hj) (List.getElem?_eq_getElem (by omega))) (hs _ hx)).2
      · intro j x u hj hv
        rw [List.getElem?_map] at hj
        obtain ⟨y, hy, rfl⟩ := Option.map_eq_some_iff.1 hj
        exact (Rep.rn0 hρ hsl (h j y u hy hv) (hs y (List.mem_of_getElem? hy))).1
  | tup => exact .any v
  | any => exact .any v
  | _ => exact (Rep.rn0 hρ hsl h rfl).1
theorem Rep.rn {x : AV} {v : Value} (h : Rep ok w μ S x v) : Rep ok' w μ' S' (x.rn ρ) v := by
  cases x with
  | tup xs =>
    cases h with
    | tup _ vs hl h =>
      refine .tup _ vs (by simpa using hl) fun j x u hj hv => ?_
      rw [List.getElem?_map] at hj
      obtain ⟨y, hy, rfl⟩ := Option.map_eq_some_iff.1 hj
      exact Rep.rn1 hρ hsl (h j y u hy hv)
  | _ => exact Rep.rn1 hρ hsl h
end
theorem AV.rn0_cells (ρ : Nat → Nat) {x : AV} (h : x.scalar = true) : (x.rn0 ρ).scalar = true ∧ (x.rn0 ρ).cells = [x.rn0 ρ] ∧ x.rn1 ρ = x.rn0 ρ := by
  cases x <;> first | exact ⟨rfl, rfl, rfl⟩ | (simp [AV.scalar] at h)
theorem AV.rn1_cells (ρ : Nat → Nat) {x : AV} (h : ∀ y ∈ x.cells, y.scalar = true) : (x.rn1 ρ).cells = x.cells.map (AV.rn0 ρ) := by
  rcases AV.agg_or x with ⟨xs, rfl⟩ | hc
  · rfl
  · obtain ⟨_, h2, h3⟩ := AV.rn0_cells ρ (h x (by rw [hc]; simp))
    rw [hc, h3, h2]; rfl
def rnO (ρ : Nat → Nat) (o : Option AObj) : Option AObj := o.map fun o => ⟨o.z, o.es.map (AV.rn1 ρ)⟩
/-- The callee's objects put back at the places K; new ones behind all. -/
def putS (ρ : Nat → Nat) : List Nat → Store → Store → Store
  | [], S, T => T ++ S.map (rnO ρ)
  | k :: K, o :: S, T => putS ρ K S (T.set k (rnO ρ o))
  | _ :: _, [], T => T
theorem putS_length (ρ : Nat → Nat) : ∀ (K : List Nat) (S T : Store), K.length ≤ S.length → (putS ρ K S T).length = T.length + (S.length - K.length)
  | [], S, T, _ => by simp [putS]
  | k :: K, o :: S, T, h => by simp only [List.length_cons] at h; rw [putS, putS_length ρ K S _ (by omega)]; simp
  | k :: K, [], T, h => by simp at h
theorem putS_old (ρ : Nat → Nat) : ∀ (K : List Nat) (S T : Store), K.length ≤ S.length → ∀ i, i < T.length → i ∉ K → (putS ρ K S T)[i]? = T[i]?
  | [], S, T, _, i, hi, _ => by rw [putS, List.getElem?_append_left hi]
  | k :: K, o :: S, T, h, i, hi, hn => by
    simp only [List.length_cons] at h
    rw [putS, putS_old ρ K S _ (by omega) i (by simpa using hi) (fun hm => hn (List.mem_cons_of_mem _ hm)), List.getElem?_set_ne (fun e => hn (by simp [e]))]
  | k :: K, [], T, h, _, _, _ => by simp at h
theorem putS_at (ρ : Nat → Nat) : ∀ (K : List Nat) (S T : Store), K.length ≤ S.length → K.Nodup → (∀ k ∈ K, k < T.length) → ∀ (j k : Nat), K[j]? = some k → (putS ρ K S T)[k]? = S[j]?.map (rnO ρ)
  | [], S, T, _, _, _, j, k, hj => by simp at hj
  | k0 :: K, o :: S, T, h, hn, hb, 0, k, hj => by
    simp at hj; subst hj
    simp only [List.length_cons] at h
    rw [List.nodup_cons] at hn
    rw [putS, putS_old ρ K S _ (by omega) k0 (by simpa using hb k0 (by simp)) hn.1, List.getElem?_set_self (hb k0 (by simp))]
    rfl
  | k0 :: K, o :: S, T, h, hn, hb, j + 1, k, hj => by
    simp only [List.length_cons] at h
    rw [List.nodup_cons] at hn
    rw [putS, putS_at ρ K S _ (by omega) hn.2 (fun k hk => by simpa using hb k (List.mem_cons_of_mem _ hk)) j k (by simpa using hj)]
    simp
  | k :: K, [], T, h, _, _, _, _, _ => by simp at h
theorem putS_new (ρ : Nat → Nat) : ∀ (K : List Nat) (S T : Store), K.length ≤ S.length → ∀ j, (putS ρ K S T)[T.length + j]? = S[K.length + j]?.map (rnO ρ)
  | [], S, T, _, j => by rw [putS, List.getElem?_append_right (by omega)]; simp
  | k :: K, o :: S, T, h, j => by
    simp only [List.length_cons] at h
    have := putS_new ρ K S (T.set k (rnO ρ o)) (by omega) j
    rw [List.length_set] at this
    rw [putS, this, List.length_cons, show K.length + 1 + j = (K.length + j) + 1 by omega, List.getElem?_cons_succ]
  | k :: K, [], T, h, _ => by simp at h
theorem AV.sd1_cells (mv : List Nat) {x : AV} (h : ∀ y ∈ x.cells, y.scalar = true) : (x.sd1 mv).cells = x.cells.map (AV.sd0 mv) := by
  rcases AV.agg_or x with ⟨xs, rfl⟩ | hc
  · rw [AV.sd1_agg]; rfl
  · obtain ⟨_, h2, h3⟩ := AV.sd0_cells mv (h x (by rw [hc]; simp))
    rw [hc, h3, h2]; rfl
def rho (K : List Nat) (n i : Nat) : Nat := K.getD i (n + (i - K.length))
/-- A contract over a few objects, in a caller that has more. -/
theorem AFn.at {P : Program} {f : FuncId} {args args' : List AV} {S T : Store} {Q : AV → Store → List Nat → Prop} (K : List Nat) (h : AFn P f args' S Q) (hn : K.Nodup) (hl : S.length = K.length)
    (hS : ∀ (j i : Nat), K[j]? = some i → ∃ (o o' : AObj), T[i]? = some (some o) ∧ S[j]? = some (some o') ∧ o'.z = o.z ∧ All2 (Rn1 K) o.es o'.es) (ha : All2 (RnT K) args args') :
    AFn P f args T (fun r2 T2 mv2 => ∃ r S' mv', Q r S' mv' ∧ r2 = r.rn (rho K T.length) ∧ mv2 = mv'.filterMap (fun j => K[j]?) ∧ T2 = putS (rho K T.length) K S' (scS mv2 T)) := by
  refine ⟨h.1, fun ok μ w vs hok rs hvl hr => ?_⟩
  obtain ⟨ok', hok'⟩ : ∃ ok' : Nat → Prop, ∀ b, ok' b = ((ok b ∧ ¬ liveB T μ b) ∨ w.heap.size ≤ b) := ⟨_, fun b => rfl⟩
  obtain ⟨μS, hμS⟩ : ∃ μS : Nat → Nat, ∀ j, μS j = μ (K.getD j 0) := ⟨_, fun j => rfl⟩
  have hμK : ∀ (j i : Nat), K[j]? = some i → μS j = μ i := fun j i hj => by rw [hμS]; simp [List.getD, hj]
  have rs' : RelS ok' w μ T := rs.okmono (fun b h1 h2 => by rw [hok']; exact .inl ⟨h1, h2⟩)
  obtain ⟨rsS, hlvS⟩ := relS_keep hn hl hS rs' hμK
  have hKlt : ∀ k ∈ K, k < T.length := fun k hk => by
    obtain ⟨j, hj, rfl⟩ := List.mem_iff_getElem.1 hk
    obtain ⟨o, o', h1, _⟩ := hS j _ (List.getElem?_eq_getElem hj)
    exact (List.getElem?_eq_some_iff.1 h1).1
  refine (h.2 ok' μS w vs (fun b hb => by rw [hok']; exact .inr hb) rsS (by rw [hvl, ha.len]) ?_).mono ?_
  · intro j y hj
    obtain ⟨x, hx, hxy⟩ := ha.get j y hj
    exact hxy.sound hlvS hl hμK ((hr j x hx).okmono (fun b h1 h2 => by rw [hok']; exact .inl ⟨h1, h2⟩))
  rintro e w' ⟨r, v, S', mv', μ', rfl, hQ, rsr, hrr, md, lv, ln, mu⟩
  rw [hl] at ln
  obtain ⟨n, hnn⟩ : ∃ n, T.length = n := ⟨_, rfl⟩
  obtain ⟨ρ, hρd⟩ : ∃ ρ, rho K n = ρ := ⟨_, rfl⟩
  obtain ⟨mv2, hmv2⟩ : ∃ m, mv'.filterMap (fun j => K[j]?) = m := ⟨_, rfl⟩
  have hT1 : (scS mv2 T).length = n := by rw [scS_eq]; simp [hnn]
  obtain ⟨T2, hT2⟩ : ∃ T2, putS ρ K S' (scS mv2 T) = T2 := ⟨_, rfl⟩
  obtain ⟨μ2, hμ2⟩ : ∃ μ2 : Nat → Nat, ∀ i, μ2 i = if i < n then (match K.idxOf? i with | some j => μ' j | none => μ i) else μ' (i - n + K.length) := ⟨_, fun i => rfl⟩
  have hlen2 : T2.length = n + (S'.length - K.length) := by rw [← hT2, putS_length ρ K S' _ ln, hT1]
  have hidx : ∀ (j k : Nat), K[j]? = some k → K.idxOf? k = some j := by
    intro j k hj
    obtain ⟨hjl, hjk⟩ := List.getElem?_eq_some_iff.1 hj
    rw [List.idxOf?_eq_some_iff]
    refine ⟨hjl, by simp [hjk], fun i hi => ?_⟩
    have : K[i]'(by omega) ≠ k := fun e => by
      have := (List.getElem_inj (i := i) (j := j) (h₀ := by omega) (h₁ := hjl) hn).1 (e.trans hjk.symm)
      omega
    simpa using this
  have hout : ∀ i, i ∉ K → K.idxOf? i = none := fun i hi => by rw [List.idxOf?_eq_none_iff]; exact hi
  have hρi : ∀ j, j < S'.length → μ2 (ρ j) = μ' j ∧ ρ j < T2.length := by
    intro j hj
    rw [← hρd]
    by_cases hjk : j < K.length
    · have e : rho K n j = K[j] := by simp [rho, List.getD, List.getElem?_eq_getElem hjk]
      have hlt : K[j] < n := by rw [← hnn]; exact hKlt _ (List.getElem_mem hjk)
      rw [e, hμ2, if_pos hlt, hidx j K[j] (List.getElem?_eq_getElem hjk), hlen2]
      exact ⟨rfl, by omega⟩
    · have e : rho K n j = n + (j - K.length) := by simp [rho, List.getD, List.getElem?_eq_none (by omega : K.length ≤ j)]
      rw [e, hμ2, if_neg (by omega), hlen2]
      exact ⟨by congr 1; omega, by omega⟩
  have hsome : ∀ (i : Nat) (o : AObj), T2[i]? = some (some o) → (i < n ∧ i ∉ K ∧ ∃ o0 : AObj, T[i]? = some (some o0) ∧ o = ⟨o0.z, o0.es.map (AV.sd1 mv2)⟩) ∨ (∃ (j : Nat) (o' : AObj), i = ρ j ∧ S'[j]? = some (some o') ∧ o = ⟨o'.z, o'.es.map (AV.rn1 ρ)⟩) := by
    intro i o hi
    rw [← hT2] at hi
    by_cases hin : i < n
    · by_cases hik : i ∈ K
      · right
        obtain ⟨j, hj, rfl⟩ := List.mem_iff_getElem.1 hik
        rw [putS_at ρ K S' _ ln hn (fun k hk => by rw [hT1, ← hnn]; exact hKlt k hk) j _ (List.getElem?_eq_getElem hj)] at hi
        obtain ⟨x, hx, hy⟩ := Option.map_eq_some_iff.1 hi
        obtain ⟨o', rfl, he⟩ := Option.map_eq_some_iff.1 hy
        refine ⟨j, o', ?_, hx, he.symm⟩
        rw [← hρd]
        simp [rho, List.getD, List.getElem?_eq_getElem hj]
      · left
        rw [putS_old ρ K S' _ ln i (by rw [hT1]; exact hin) hik, scS_eq, List.getElem?_map] at hi
        obtain ⟨x, hx, hy⟩ := Option.map_eq_some_iff.1 hi
        obtain ⟨o0, rfl, he⟩ := Option.map_eq_some_iff.1 hy
        exact ⟨hin, hik, o0, hx, he.symm⟩
    · right
      have := putS_new ρ K S' (scS mv2 T) ln (i - n)
      rw [hT1, show n + (i - n) = i by omega] at this
      rw [this] at hi
      obtain ⟨x, hx, hy⟩ := Option.map_eq_some_iff.1 hi
      obtain ⟨o', rfl, he⟩ := Option.map_eq_some_iff.1 hy
      refine ⟨K.length + (i - n), o', ?_, hx, he.symm⟩
      rw [← hρd]
      simp [rho, List.getD, List.getElem?_eq_none (show K.length ≤ K.length + (i - n) by omega)]
      omega
  have hold : ∀ c, liveB T μ c → c < w.heap.size := fun c ⟨i, o, hi, hne, e⟩ => by
    obtain ⟨cs, ty, hb, _⟩ := rs.blk i o hi hne
    rw [← e]; exact (Array.getElem?_eq_some_iff.1 hb).1
  have hlv2 : ∀ c, liveB T2 μ2 c → (∃ (i : Nat) (o : AObj), i ∉ K ∧ T[i]? = some (some o) ∧ o.es ≠ [] ∧ μ i = c) ∨ liveB S' μ' c := by
    rintro c ⟨i, o, hi, hne, rfl⟩
    rcases hsome i o hi with ⟨hin, hik, o0, h0, rfl⟩ | ⟨j, o', rfl, hj, rfl⟩
    · left
      refine ⟨i, o0, hik, h0, by simpa using hne, ?_⟩
      rw [hμ2, if_pos hin, hout i hik]
    · exact .inr ⟨j, o', hj, by simpa using hne, ((hρi j (List.getElem?_eq_some_iff.1 hj).1).1).symm⟩
  have hlvT : ∀ c, c < w.heap.size → liveB S' μ' c → liveB T μ c := fun c hc hl => hlvS c (lv c hc hl)
  have hl2 : ∀ c, c < w.heap.size → liveB T2 μ2 c → liveB T μ c := by
    intro c hc hl
    rcases hlv2 c hl with ⟨i, o, _, hi, hne, rfl⟩ | h
    · exact ⟨i, o, hi, hne, rfl⟩
    · exact hlvT c hc h
  have hnS : ∀ (i : Nat) (o : AObj), i ∉ K → T[i]? = some (some o) → o.es ≠ [] → ¬ liveB S μS (μ i) := by
    rintro i o hik hi hne ⟨j, o', hj, hne', e⟩
    have hjl : j < K.length := by rw [← hl]; exact (List.getElem?_eq_some_iff.1 hj).1
    obtain ⟨o2, o3, h1, h2, h3, h4⟩ := hS j K[j] (List.getElem?_eq_getElem hjl)
    rw [hj] at h2
    cases h2
    rw [hμK j _ (List.getElem?_eq_getElem hjl)] at e
    have hne2 : o2.es ≠ [] := fun e2 => by
      have := h4.len
      rw [e2] at this
      exact hne' (List.eq_nil_of_length_eq_zero this)
    have := rs.inj _ _ _ _ h1 hi hne2 hne e
    exact hik (by rw [← this]; exact List.getElem_mem hjl)
  have hsl : ∀ b, ok' b → ¬ liveB S' μ' b → ok b ∧ ¬ liveB T2 μ2 b := by
    intro b hb hnb
    rw [hok'] at hb
    rcases hb with ⟨h1, h2⟩ | h1
    · refine ⟨h1, fun hl => ?_⟩
      rcases hlv2 b hl with ⟨i, o, _, hi, hne, rfl⟩ | h
      · exact h2 ⟨i, o, hi, hne, rfl⟩
      · exact hnb h
    · refine ⟨hok b h1, fun hl => ?_⟩
      rcases hlv2 b hl with ⟨i, o, _, hi, hne, rfl⟩ | h
      · have := hold _ ⟨i, o, hi, hne, rfl⟩
        omega
      · exact hnb h
  have md2 : Mod w (liveB T μ) w' := ⟨md.os, md.tape, md.output, md.size, fun b hb hnb => md.keep b hb (fun h => hnb (hlvS b h)), md.shape⟩
  have hmu : ∀ i, i < T.length → mv2.contains i = false → μ2 i = μ i := by
    intro i hi hc
    rw [hμ2, if_pos (by omega)]
    by_cases hik : i ∈ K
    · obtain ⟨j, hj, rfl⟩ := List.mem_iff_getElem.1 hik
      have hjK : K[j]? = some K[j] := List.getElem?_eq_getElem hj
      rw [hidx j _ hjK]
      simp only
      rw [mu j (by rw [hl]; exact hj) ?_, hμK j _ hjK]
      cases hm : mv'.contains j with
      | false => rfl
      | true =>
        have hmem : K[j] ∈ mv2 := by
          rw [← hmv2, List.mem_filterMap]
          exact ⟨j, by simpa using hm, hjK⟩
        simp at hc
        exact absurd hmem hc
    · rw [hout i hik]
  have hh : Hop w μ T w' μ2 T2 mv2 := ⟨fun ad u hn hc => md2.cell ad u hn hc, hl2, by omega, hmu, md.shape⟩
  have rs2 : RelS ok w' μ2 T2 := by
    refine ⟨?_, ?_, ?_⟩
    · intro i o hi hne
      rcases hsome i o hi with ⟨hin, hik, o0, h0, rfl⟩ | ⟨j, o', rfl, hj, rfl⟩
      · have hne0 : o0.es ≠ [] := by simpa using hne
        obtain ⟨cs, ty, hb, hs, hc⟩ := rs.blk i o0 h0 hne0
        refine ⟨cs, ty, ?_, by simpa using hs, fun k x jj y hk hjj => ?_⟩
        · rw [hμ2, if_pos hin, hout i hik, md.keep _ (Array.getElem?_eq_some_iff.1 hb).1 (hnS i o0 hik h0 hne0)]
          exact hb
        · simp only [List.getElem?_map, Option.map_eq_some_iff] at hk
          obtain ⟨x0, hx0, rfl⟩ := hk
          have hsc := ((rs.siz i o0 h0).2 x0 (List.mem_of_getElem? hx0)).2
          rw [AV.sd1_cells mv2 hsc, List.getElem?_map, Option.map_eq_some_iff] at hjj
          obtain ⟨y0, hy0, rfl⟩ := hjj
          obtain ⟨v, hv, hr⟩ := hc k x0 jj y0 hx0 hy0
          exact ⟨v, hv, (hr.sd0 hh (hsc y0 (List.mem_of_getElem? hy0))).1⟩
      · obtain ⟨cs, ty, hb, hs, hc⟩ := rsr.blk j o' hj (by simpa using hne)
        refine ⟨cs, ty, by rw [(hρi j (List.getElem?_eq_some_iff.1 hj).1).1]; exact hb, by simpa using hs, fun k x jj y hk hjj => ?_⟩
        simp only [List.getElem?_map, Option.map_eq_some_iff] at hk
        obtain ⟨x0, hx0, rfl⟩ := hk
        have hsc := ((rsr.siz j o' hj).2 x0 (List.mem_of_getElem? hx0)).2
        rw [AV.rn1_cells ρ hsc, List.getElem?_map, Option.map_eq_some_iff] at hjj
        obtain ⟨y0, hy0, rfl⟩ := hjj
        obtain ⟨v, hv, hr⟩ := hc k x0 jj y0 hx0 hy0
        exact ⟨v, hv, (hr.rn0 hρi hsl (hsc y0 (List.mem_of_getElem? hy0))).1⟩
    · intro i o hi
      rcases hsome i o hi with ⟨hin, hik, o0, h0, rfl⟩ | ⟨j, o', rfl, hj, rfl⟩
      · obtain ⟨hz, hs⟩ := rs.siz i o0 h0
        refine ⟨hz, fun x hx => ?_⟩
        obtain ⟨x0, hx0, rfl⟩ := List.mem_map.1 hx
        obtain ⟨h1, h2⟩ := hs x0 hx0
        rw [AV.sd1_cells mv2 h2]
        refine ⟨by simpa using h1, fun y hy => ?_⟩
        obtain ⟨y0, hy0, rfl⟩ := List.mem_map.1 hy
        exact (AV.sd0_cells mv2 (h2 y0 hy0)).1
      · obtain ⟨hz, hs⟩ := rsr.siz j o' hj
        refine ⟨hz, fun x hx => ?_⟩
        obtain ⟨x0, hx0, rfl⟩ := List.mem_map.1 hx
        obtain ⟨h1, h2⟩ := hs x0 hx0
        rw [AV.rn1_cells ρ h2]
        refine ⟨by simpa using h1, fun y hy => ?_⟩
        obtain ⟨y0, hy0, rfl⟩ := List.mem_map.1 hy
        exact (AV.rn0_cells ρ (h2 y0 hy0)).1
    · have hcross : ∀ (i j : Nat) (o0 o' : AObj), i < n → i ∉ K → T[i]? = some (some o0) → o0.es ≠ [] → S'[j]? = some (some o') → o'.es ≠ [] → μ2 i ≠ μ2 (ρ j) := by
        intro i j o0 o' hin hik h0 hne0 hj hne' e
        rw [hμ2 i, if_pos hin, hout i hik, (hρi j (List.getElem?_eq_some_iff.1 hj).1).1] at e
        simp only at e
        have hlt := hold _ ⟨i, o0, h0, hne0, rfl⟩
        exact hnS i o0 hik h0 hne0 (lv _ hlt ⟨j, o', hj, hne', e.symm⟩)
      intro i j oi oj hi hj hni hnj e
      rcases hsome i oi hi with ⟨hin, hik, o0, h0, rfl⟩ | ⟨k, o1, rfl, hk, rfl⟩ <;> rcases hsome j oj hj with ⟨hjn, hjk, o0', h0', rfl⟩ | ⟨k', o2, rfl, hk', rfl⟩
      · rw [hμ2, if_pos hin, hout i hik, hμ2, if_pos hjn, hout j hjk] at e
        exact rs.inj i j o0 o0' h0 h0' (by simpa using hni) (by simpa using hnj) e
      · exact absurd e (hcross i k' o0 o2 hin hik h0 (by simpa using hni) hk' (by simpa using hnj))
      · exact absurd e.symm (hcross j k o0' o1 hjn hjk h0' (by simpa using hnj) hk (by simpa using hni))
      · rw [(hρi k (List.getElem?_eq_some_iff.1 hk).1).1, (hρi k' (List.getElem?_eq_some_iff.1 hk').1).1] at e
        rw [rsr.inj k k' o1 o2 hk hk' (by simpa using hni) (by simpa using hnj) e]
  refine ⟨r.rn ρ, v, T2, mv2, μ2, rfl, ⟨r, S', mv', hQ, by rw [hnn, hρd], hmv2.symm, by rw [hnn, hρd, hT2]⟩, rs2, hrr.rn hρi hsl, md2, hl2, by omega, hmu⟩
end
section
theorem Rep.live {ok : Nat → Prop} {w : World} {μ : Nat → Nat} {S S1 : Store} (hl : S1.length = S.length) (hk : ∀ b, liveB S1 μ b → liveB S μ b) {x : AV} {v : Value} (h : Rep ok w μ S x v) : Rep ok w μ S1 x v := by
  have hd : ∀ {d : D} {u : Value}, RepD w (fun b => ok b ∧ ¬ liveB S μ b) d u → RepD w (fun b => ok b ∧ ¬ liveB S1 μ b) d u := fun h =>
    h.mono (fun _ _ _ hc => hc) (fun ad u hl _ => ⟨hl.1, fun h => hl.2 (hk _ h)⟩)
  induction h with
  | prim v h1 => exact .prim v h1
  | sl z xs v h => exact .sl z xs v (hd h)
  | agg xs vs hl hs h ih => exact .agg xs vs hl hs ih
  | tup xs vs hl h ih => exact .tup xs vs hl ih
  | ro xs ad f hsp hne hb h1 h2 => exact .ro xs ad f hsp hne ⟨hb.1, fun h => hb.2 (hk _ h)⟩ h1 (fun j y hj => hd (h2 j y hj))
  | ref i z k sub hi => exact .ref i z k sub (by omega)
  | own0 i z off A hi => exact .own0 i z off A (by omega)
  | own i z off len c cs ty hi h0 hc hb hsz => exact .own i z off len c cs ty (by omega) h0 hc hb hsz
  | clo g caps vs hl h ih => exact .clo g caps vs hl ih
  | junk v h1 => exact .junk v h1
  | any v => exact .any v
/-- An object read as data where it is no object any more. -/
theorem drop_sound {ok : Nat → Prop} {w : World} {μ μ' : Nat → Nat} {S S' : Store} (rs : RelS ok w μ S) (hlv : ∀ b, liveB S' μ' b → liveB S μ b) {i z off len : Nat} {o : AObj} {ds : List D} (ho : getO S i = some o) (hz : o.z = z) (hle : off + len ≤ o.es.length)
    (hds : IsDs ((o.es.drop off).take len) ds) (hok : o.es ≠ [] → ok (μ i) ∧ ¬ liveB S' μ' (μ i)) {v : Value} (hr : Rep ok w μ S (.own i z off len) v) : Rep ok w μ' S' (.sl z ds) v := by
  have hi := getO_some ho
  have hil : i < S.length := (List.getElem?_eq_some_iff.1 hi).1
  obtain ⟨S1, hS1⟩ : ∃ S1 : Store, S1 = (List.replicate S.length none).set i (some o) := ⟨_, rfl⟩
  have hl1 : S1.length = S.length := by rw [hS1]; simp
  have hget : ∀ (j : Nat) (x : AObj), S1[j]? = some (some x) → j = i ∧ x = o := by
    intro j x hj
    rw [hS1, List.getElem?_set] at hj
    split at hj
    · rename_i e
      split at hj
      · cases hj; exact ⟨e.symm, rfl⟩
      · cases hj
    · rw [List.getElem?_replicate] at hj
      split at hj <;> cases hj
  have hgi : S1[i]? = some (some o) := by rw [hS1, List.getElem?_set_self (by simpa using hil)]
  have hlive : ∀ b, liveB S1 μ b → b = μ i ∧ o.es ≠ [] := by
    rintro b ⟨j, x, hj, hne, rfl⟩
    obtain ⟨rfl, rfl⟩ := hget j x hj
    exact ⟨rfl, hne⟩
  have hsub : ∀ b, liveB S1 μ b → liveB S μ b := fun b hb => by
    obtain ⟨rfl, hne⟩ := hlive b hb
    exact ⟨i, o, hi, hne, rfl⟩
  have ok1 : ∀ {x : AV} {u : Value}, Rep ok w μ S x u → Rep (fun c => ok c ∧ ¬ liveB S μ c) w μ S1 x u := fun h => (h.okmono (ok' := fun c => ok c ∧ ¬ liveB S μ c) (fun b h1 h2 => ⟨h1, h2⟩)).live hl1 hsub
  have rs1 : RelS (fun c => ok c ∧ ¬ liveB S μ c) w μ S1 := by
    refine ⟨fun j x hj hne => ?_, fun j x hj => ?_, fun j k x y hj hk _ _ _ => ?_⟩
    · obtain ⟨rfl, rfl⟩ := hget j x hj
      obtain ⟨cs, ty, h1, h2, h3⟩ := rs.blk j x hi hne
      exact ⟨cs, ty, h1, h2, fun k y jj c hk hjj => by obtain ⟨u, a, b⟩ := h3 k y jj c hk hjj; exact ⟨u, a, ok1 b⟩⟩
    · obtain ⟨rfl, rfl⟩ := hget j x hj
      exact rs.siz j x hi
    · rw [(hget j x hj).1, (hget k y hk).1]
  have ho1 : getO S1 i = some o := by unfold getO; rw [hgi]
  have := Arg0.sound rs1 (b := true) (ok' := fun c => ok c ∧ ¬ liveB S' μ' c) (fun c h1 _ => ⟨h1.1, fun h => h1.2 (hlv c h)⟩) (fun _ c hc => by obtain ⟨rfl, hne⟩ := hlive c hc; exact hok hne) (Arg0.own i z off len o ds rfl ho1 hz hle hds) (ok1 hr)
  cases this with
  | sl _ _ _ h => exact .sl z ds v (h.mono (fun _ _ _ hc => hc) (fun ad u hb _ => hb.1))
/-- Values with the objects K renumbered, and other ones, from n0 on, as data. -/
inductive Rd0 (K : List Nat) (S : Store) (n0 : Nat) : AV → AV → Prop
  | rn (x y : AV) (h : Rn0 K x y) : Rd0 K S n0 x y
  | drop (i z off len : Nat) (o : AObj) (ds : List D) (hi : n0 ≤ i) (hK : i ∉ K) (ho : getO S i = some o) (hz : o.z = z) (hl : off + len ≤ o.es.length) (h : IsDs ((o.es.drop off).take len) ds) : Rd0 K S n0 (.own i z off len) (.sl z ds)
  | nil (z : Nat) (hz : 0 < z) : Rd0 K S n0 (.prim (.slice none 0 0)) (.sl z [])
inductive Rd1 (K : List Nat) (S : Store) (n0 : Nat) : AV → AV → Prop
  | of (x y : AV) (h : Rd0 K S n0 x y) : Rd1 K S n0 x y
  | agg (xs ys : List AV) (h : All2 (Rd0 K S n0) xs ys) : Rd1 K S n0 (.agg xs) (.agg ys)
  | any (x : AV) : Rd1 K S n0 x .any
inductive RdT (K : List Nat) (S : Store) (n0 : Nat) : AV → AV → Prop
  | of (x y : AV) (h : Rd1 K S n0 x y) : RdT K S n0 x y
  | tup (xs ys : List AV) (h : All2 (Rd1 K S n0) xs ys) : RdT K S n0 (.tup xs) (.tup ys)
theorem Rd0.sca {K : List Nat} {S : Store} {n0 : Nat} {x y : AV} (h : Rd0 K S n0 x y) : y.scalar = x.scalar := by
  cases h with
  | rn _ _ h => exact h.sca
  | drop => rfl
  | nil => rfl
section
variable {ok : Nat → Prop} {w : World} {μ μ' : Nat → Nat} {S S' : Store} {K : List Nat} {n0 : Nat} (hlv : ∀ b, liveB S' μ' b → liveB S μ b) (hK : S'.length = K.length) (hμ : ∀ (j i : Nat), K[j]? = some i → μ' j = μ i)
  (rs : RelS ok w μ S) (hd : ∀ (i : Nat) (o : AObj), n0 ≤ i → i ∉ K → getO S i = some o → o.es ≠ [] → ok (μ i) ∧ ¬ liveB S' μ' (μ i))
include hlv hK hμ rs hd
theorem Rd0.sound {x y : AV} {v : Value} (h : Rd0 K S n0 x y) (hr : Rep ok w μ S x v) : Rep ok w μ' S' y v := by
  cases h with
  | rn _ _ h => exact h.sound hlv hK hμ hr
  | drop i z off len o ds hi hKi ho hz hl h => exact drop_sound rs hlv ho hz hl h (fun hne => hd i o hi hKi ho hne) hr
  | nil z hz =>
    cases hr
    exact .sl z [] _ (.sl z [] 0 none 0 default (fun _ _ => undef) rfl (Nat.le_refl _) (fun h => absurd rfl h) hz (fun i x hi => by simp at hi) (fun i x j y hi _ => by simp at hi) (fun i x j y hi _ => by simp at hi))
theorem Rd1.sound {x y : AV} {v : Value} (h : Rd1 K S n0 x y) (hr : Rep ok w μ S x v) : Rep ok w μ' S' y v := by
  cases h with
  | of _ _ h => exact h.sound hlv hK hμ rs hd hr
  | any => exact .any v
  | agg xs ys h =>
    cases hr with
    | agg _ vs hl hs hr =>
      refine .agg ys vs (by rw [h.len]; exact hl) ?_ ?_
      · intro y hy
        obtain ⟨j, hj, rfl⟩ := List.mem_iff_getElem.1 hy
        obtain ⟨x, hx, ha⟩ := h.get j _ (List.getElem?_eq_getElem hj)
        rw [ha.sca]
        exact hs x (List.mem_of_getElem? hx)
      · intro j y v hj hv
        obtain ⟨x, hx, ha⟩ := h.get j y hj
        exact ha.sound hlv hK hμ rs hd (hr j x v hx hv)
theorem RdT.sound {x y : AV} {v : Value} (h : RdT K S n0 x y) (hr : Rep ok w μ S x v) : Rep ok w μ' S' y v := by
  cases h with
  | of _ _ h => exact h.sound hlv hK hμ rs hd hr
  | tup xs ys h =>
    cases hr with
    | tup _ vs hl hr =>
      refine .tup ys vs (by rw [h.len]; exact hl) fun j y v hj hv => ?_
      obtain ⟨x, hx, ha⟩ := h.get j y hj
      exact ha.sound hlv hK hμ rs hd (hr j x v hx hv)
end
/-- As 'fin_move'; objects that are not handed on may come back as data. -/
theorem fin_drop (K : List Nat) (mv' : List Nat) {n0 : Nat} {r r' : AV} {S S' : Store} {mv : List Nat} {Q : AV → Store → List Nat → Prop} (hn : K.Nodup) (hl : S'.length = K.length) (hn0 : n0 ≤ K.length)
    (hS : ∀ (j i : Nat), K[j]? = some i → ∃ (o o' : AObj), getO S i = some o ∧ S'[j]? = some (some o') ∧ o'.z = o.z ∧ All2 (Rn1 K) o.es o'.es)
    (hm : ∀ i, i < n0 → mv.contains i = false ∧ (∃ o, getO S i = some o ∧ o.es ≠ []) ∧ (mv'.contains i = false → K[i]? = some i))
    (hr : RdT K S n0 r r') (h : Q r' S' mv') : Fin n0 r S mv Q := by
  refine ⟨r', S', mv', h, ?_⟩
  intro ok w0 μ0 S0 μ a w v tm h0 hrel hv
  let μ' : Nat → Nat := fun j => μ (K.getD j 0)
  have hμ : ∀ (j i : Nat), K[j]? = some i → μ' j = μ i := fun j i hj => by simp [μ', List.getD, hj]
  obtain ⟨h1, h2⟩ := relS_keep hn hl (fun j i hj => by obtain ⟨o, o', a, b⟩ := hS j i hj; exact ⟨o, o', getO_some a, b⟩) hrel.rs hμ
  have hd : ∀ (i : Nat) (o : AObj), n0 ≤ i → i ∉ K → getO S i = some o → o.es ≠ [] → ok (μ i) ∧ ¬ liveB S' μ' (μ i) := by
    intro i o hi hKi ho hne
    refine ⟨hrel.fr _ ?_, ?_⟩
    · rcases Nat.lt_or_ge (μ i) w0.heap.size with hlt | hge
      · obtain ⟨j, o0, hj, hne0, e⟩ := hrel.lv _ hlt ⟨i, o, getO_some ho, hne, rfl⟩
        have hjn : j < n0 := by rw [← h0]; exact (List.getElem?_eq_some_iff.1 hj).1
        obtain ⟨m1, ⟨oj, m2, m3⟩, _⟩ := hm j hjn
        have e2 := hrel.mu j (by omega) m1
        have := hrel.rs.inj j i oj o (getO_some m2) (getO_some ho) m3 hne (by rw [e2, e])
        omega
      · exact hge
    · rintro ⟨j, o', hj, hne', e⟩
      have hjl : j < K.length := by rw [← hl]; exact (List.getElem?_eq_some_iff.1 hj).1
      obtain ⟨oj, o2, g1, g2, g3, g4⟩ := hS j K[j] (List.getElem?_eq_getElem hjl)
      rw [hj] at g2
      cases g2
      rw [hμ j _ (List.getElem?_eq_getElem hjl)] at e
      have hnej : oj.es ≠ [] := fun e2 => by
        have := g4.len
        rw [e2] at this
        exact hne' (List.eq_nil_of_length_eq_zero this)
      have := hrel.rs.inj _ _ _ _ (getO_some g1) (getO_some ho) hnej hne e
      exact hKi (by rw [← this]; exact List.getElem_mem hjl)
  refine ⟨μ', h1, hr.sound h2 hl hμ hrel.rs hd hv, fun b hb hl' => hrel.lv b hb (h2 b hl'), by omega, fun i hi hc => ?_⟩
  obtain ⟨a1, _, a2⟩ := hm i (by omega)
  rw [hμ i i (a2 hc)]
  exact hrel.mu i hi a1
end
section
section
variable {P : Program} {ops : Array Oper} {Inv : Store → Prop}
theorem afterR_mono {r : OpR} {d : Option Tmp} {st : St} {K K' : St → Prop} (hk : ∀ st, K st → K' st) (h : afterR P r d st K) : afterR P r d st K' := by
  unfold afterR at h ⊢
  split at h
  · exact ⟨h.1, hk _ h.2⟩
  · exact ⟨h.1, hk _ h.2⟩
  · exact ⟨h.1, hk _ h.2⟩
  · exact ⟨h.1, hk _ h.2⟩
  · obtain ⟨Q, h1, h2⟩ := h
    exact ⟨Q, h1, fun r S' mv hq => hk _ (h2 r S' mv hq)⟩
  · exact h
theorem stepE_mono {o : Option Oper} {st : St} {K K' : St → Prop} (hk : ∀ st, K st → K' st) (h : stepE P ops o st K) : stepE P ops o st K' := by
  cases o with
  | none => exact hk _ h
  | some o =>
    simp only [stepE] at h ⊢
    split at h
    · exact h.elim
    · exact afterR_mono hk h
    · exact hk _ h
/-- One operation; what is appended to an empty slice is a new object. -/
def newK (r : OpR) (d : Option Tmp) (st : St) (K : St → Prop) : Prop := match r with
  | .new φ ob mk => φ ∧ K (St.put ⟨st.tm, st.S ++ [some ob], st.mv⟩ d (mk st.S.length))
  | _ => False
@[go_sem] theorem newK_new {φ : Prop} {ob : AObj} {mk : Nat → AV} {d : Tmp} {tm : List AV} {S : Store} {mv : List Nat} {K : St → Prop} : newK (.new φ ob mk) (some d) ⟨tm, S, mv⟩ K = (φ ∧ K ⟨tm.set d (mk S.length), S ++ [some ob], mv⟩) := rfl
theorem newK_mono {r : OpR} {d : Option Tmp} {st : St} {K K' : St → Prop} (hk : ∀ st, K st → K' st) (h : newK r d st K) : newK r d st K' := by
  unfold newK at h ⊢
  split at h
  · exact ⟨h.1, hk _ h.2⟩
  · exact h
def stepM (P : Program) (ops : Array Oper) (o : Option Oper) (st : St) (K : St → Prop) : Prop :=
  stepE P ops o st K ∨ ∃ o', o = some o' ∧ gd ops st.tm o' = some true ∧ newK (opF (tiOf P) st.tm st.S o'.op) o'.dst st K
theorem stepM_mono {o : Option Oper} {st : St} {K K' : St → Prop} (hk : ∀ st, K st → K' st) (h : stepM P ops o st K) : stepM P ops o st K' := by
  rcases h with h | ⟨o', h1, h2, h3⟩
  · exact .inl (stepE_mono hk h)
  · exact .inr ⟨o', h1, h2, newK_mono hk h3⟩
/-- Whatever order is picked; Inv holds of the objects behind every operation, and none has moved. -/
def expG (P : Program) (ops : Array Oper) (Inv : Store → Prop) : Nat → Array Bool → St → (St → Prop) → Prop
  | 0, listed, st, K => Region.ready .any ops listed = [] ∧ K st
  | f + 1, listed, st, K => (Region.ready .any ops listed = [] → K st) ∧ ∀ i ∈ Region.ready .any ops listed, stepM P ops ops[i]? st (fun st' => st'.mv = st.mv ∧ Inv st'.S ∧ expG P ops Inv f (listed.setIfInBounds i true) st' K)
theorem expG_any {ok : Nat → Prop} {w0 : World} {μ0 : Nat → Nat} {Sc : Store} {Q : Exit → Act → World → Prop} {K : St → Prop} (hQ : ∀ st μ a w, K st → RelT ok w0 μ0 Sc st μ a w → Q .normal a w) :
    ∀ (fuel : Nat) (listed : Array Bool) (st : St) (μ : Nat → Nat) (a : Act) (w : World), expG P ops Inv fuel listed st K → RelT ok w0 μ0 Sc st μ a w → wpAny P .any ops Q fuel listed a w
  | 0, listed, st, μ, a, w, h, hr => ⟨h.1, hQ st μ a w h.2 hr⟩
  | f + 1, listed, st, μ, a, w, h, hr => by
    refine ⟨fun h0 => hQ st μ a w (h.1 h0) hr, fun i hi => ?_⟩
    have hs := h.2 i hi
    unfold wpOp
    cases ho : ops[i]? with
    | none =>
      rw [ho] at hs
      rcases hs with hs | ⟨o', h1, _⟩
      · exact expG_any hQ f _ st μ a w hs.2.2 hr
      · cases h1
    | some o =>
      rw [ho] at hs
      rcases hs with hs | ⟨o', h1, hg, hs⟩
      · simp only [stepE] at hs
        simp only
        split at hs
        · exact hs.elim
        · rename_i hg
          rw [if_pos (gd_sound hr hg)]
          refine .inl (Oper.wp_mono ?_ (step_sound hr o hs (Q := Q)))
          rintro a' w' ⟨st', μ', hK, hr'⟩
          exact expG_any hQ f _ st' μ' a' w' hK.2.2 hr'
        · rename_i hg
          rw [if_neg (by rw [gd_sound hr hg]; simp)]
          exact expG_any hQ f _ _ μ _ w hs.2.2 (hr.put _ (rep_undef _ _ _ _))
      · cases h1
        simp only
        rw [if_pos (gd_sound hr hg)]
        unfold newK at hs
        split at hs
        · rename_i φ ob mk he
          obtain ⟨s, hm, hx⟩ := newF_sound hr o he hs.1
          refine .inl (Oper.wp_mono ?_ (made_step hr hm hx (K := fun st' => st'.mv = st.mv ∧ Inv st'.S ∧ expG P ops Inv f (listed.setIfInBounds i true) st' K) hs.2 (Q := Q)))
          rintro a' w' ⟨st', μ', hK, hr'⟩
          exact expG_any hQ f _ st' μ' a' w' hK.2.2 hr'
        · exact hs.elim
theorem stepG_yield {o : Oper} {v : AV} {st : St} {K : St → Prop} (hy : YieldH P ops Inv o v st.tm) (hS : Inv st.S) (h : K (st.put o.dst v)) : stepM P ops (some o) st K := by
  refine .inl ?_
  rcases hy with ⟨hg, hv⟩ | ⟨hg, rfl⟩
  · obtain ⟨φ, h1, h2⟩ := hv _ hS
    simp only [stepE, hg, stepP, h1]
    exact ⟨h2, h⟩
  · simp only [stepE, hg]
    exact h
theorem put_mv (st : St) (d : Option Tmp) (v : AV) : (st.put d v).mv = st.mv := by cases d <;> rfl
theorem stepG_put1 {oi oj : Oper} {v : AV} {d : Tmp} (hd : oi.dst = some d) (hap : oi.apart ops oj = true) {K : St → Prop} {st : St} (hy : YieldH P ops Inv oi v st.tm)
    (h : stepE P ops (some oj) (st.put (some d) v) (fun st' => st'.mv = (st.put (some d) v).mv ∧ K st')) : stepE P ops (some oj) st (fun st' => YieldH P ops Inv oi v st'.tm ∧ st'.mv = st.mv ∧ K (st'.put (some d) v)) := by
  obtain ⟨h1, h2, h3⟩ := Oper.apart_spec hap
  have hl : ∀ t ∈ oj.looksAt ops, (st.put (some d) v).tm[t]? = st.tm[t]? := fun t ht => set_get (fun e => h1 d hd (by rw [e]; exact ht))
  have keep : ∀ (tm : List AV), YieldH P ops Inv oi v tm → ∀ (S : Store) (mv : List Nat) (u : AV), YieldH P ops Inv oi v (St.put ⟨tm, S, mv⟩ oj.dst u).tm := by
    intro tm hy S mv u
    cases e : oj.dst with
    | none => exact hy
    | some t => exact hy.same (fun t' ht' => set_get (fun e' => h3 t e (by rw [e']; exact ht')))
  have comm : ∀ (S : Store) (mv : List Nat) (u : AV), St.put (St.put ⟨st.tm, S, mv⟩ (some d) v) oj.dst u = St.put (St.put ⟨st.tm, S, mv⟩ oj.dst u) (some d) v := by
    intro S mv u
    cases e : oj.dst with
    | none => rfl
    | some t =>
      simp only [St.put]
      rw [List.set_comm _ _ (fun e' => h2 d hd (by rw [e, e']))]
  have hg : gd ops (st.put (some d) v).tm oj = gd ops st.tm oj := gd_eq hl
  have ho : opR (tiOf P) (st.put (some d) v).tm (st.put (some d) v).S oj.op = opR (tiOf P) st.tm st.S oj.op := opR_eq hl
  have hmv : (st.put (some d) v).mv = st.mv := rfl
  simp only [stepE] at h ⊢
  rw [hg] at h
  split at h
  · exact h.elim
  · simp only [stepP] at h ⊢
    rw [ho] at h
    unfold afterR at h ⊢
    split at h
    · exact ⟨h.1, keep _ hy _ _ _, by rw [put_mv], by rw [← comm]; exact h.2.2⟩
    · exact ⟨h.1, keep _ hy _ _ _, by rw [put_mv], by rw [← comm]; exact h.2.2⟩
    · exact ⟨h.1, keep _ hy _ _ _, by rw [put_mv], by rw [← comm]; exact h.2.2⟩
    · rename_i φ i ob u _
      have := h.2.1
      rw [put_mv] at this
      have := congrArg List.length this
      simp [hmv] at this
    · obtain ⟨Q, q1, q2⟩ := h
      refine ⟨Q, q1, fun r S' mv' hq => ?_⟩
      obtain ⟨k1, k2⟩ := q2 r S' mv' hq
      have hnil : mv' = [] := by
        rw [put_mv] at k1
        have := congrArg List.length k1
        simp [hmv] at this
        exact this
      subst hnil
      exact ⟨keep _ hy _ _ _, by rw [put_mv]; rfl, by have := comm S' ([] ++ st.mv) r; simp only [scT] at this ⊢; rw [← this]; exact k2⟩
    · exact h.elim
  · exact ⟨keep _ hy _ _ _, by rw [put_mv], by rw [← comm]; exact h.2⟩
theorem stepG_put {oi oj : Oper} {v : AV} {d : Tmp} (hd : oi.dst = some d) (hap : oi.apart ops oj = true) {K : St → Prop} {st : St} (hy : YieldH P ops Inv oi v st.tm)
    (h : stepM P ops (some oj) (st.put (some d) v) (fun st' => st'.mv = (st.put (some d) v).mv ∧ K st')) : stepM P ops (some oj) st (fun st' => YieldH P ops Inv oi v st'.tm ∧ st'.mv = st.mv ∧ K (st'.put (some d) v)) := by
  rcases h with h | ⟨o', e, hg, h⟩
  · exact .inl (stepG_put1 hd hap hy h)
  · cases e
    obtain ⟨h1, h2, h3⟩ := Oper.apart_spec hap
    have hl : ∀ t ∈ oj.looksAt ops, (st.put (some d) v).tm[t]? = st.tm[t]? := fun t ht => set_get (fun e => h1 d hd (by rw [e]; exact ht))
    have hgg : gd ops (st.put (some d) v).tm oj = gd ops st.tm oj := gd_eq hl
    have ho : opF (tiOf P) (st.put (some d) v).tm (st.put (some d) v).S oj.op = opF (tiOf P) st.tm st.S oj.op := opF_eq hl
    refine .inr ⟨oj, rfl, by rw [← hgg]; exact hg, ?_⟩
    rw [ho] at h
    unfold newK at h ⊢
    split at h
    · refine ⟨h.1, ?_, ?_, ?_⟩
      · cases e : oj.dst with
        | none => exact hy
        | some t => exact hy.same (fun t' ht' => set_get (fun e' => h3 t e (by rw [e']; exact ht')))
      · rw [put_mv]
      · have h4 := h.2.2
        cases e : oj.dst with
        | none => rw [e] at h4; exact h4
        | some t =>
          rw [e] at h4
          simp only [St.put] at h4 ⊢
          rw [List.set_comm _ _ (fun e' => h2 d hd (by rw [e, ← e']))]
          exact h4
    · exact h
theorem expG_first {K : St → Prop} {i : Nat} {oi : Oper} {v : AV} {d : Tmp} (hi : ops[i]? = some oi) (hd : oi.dst = some d) :
    ∀ (f : Nat) (listed : Array Bool) (st : St),
      (∀ j oj, ops[j]? = some oj → j ≠ i → listed.getD j true = false → (∀ e ∈ oj.after, Region.binds .any e = true → e.on ≠ i) → oi.apart ops oj = true) →
      i ∈ Region.ready .any ops listed → YieldH P ops Inv oi v st.tm → Inv st.S →
      expG P ops Inv f (listed.setIfInBounds i true) (st.put (some d) v) K → expG P ops Inv (f + 1) listed st K := by
  intro f
  induction f with
  | zero =>
    intro listed st _ hr hy hS H
    refine ⟨fun h => (by rw [h] at hr; cases hr), fun j hj => ?_⟩
    by_cases hji : j = i
    · subst hji; rw [hi]; exact stepG_yield hy hS ⟨by rw [hd]; rfl, by rw [hd]; exact hS, by rw [hd]; exact H⟩
    · have := ready_mono hj hji
      rw [H.1] at this
      cases this
  | succ f ih =>
    intro listed st hfree hr hy hS H
    refine ⟨fun h => (by rw [h] at hr; cases hr), fun j hj => ?_⟩
    by_cases hji : j = i
    · subst hji; rw [hi]; exact stepG_yield hy hS ⟨by rw [hd]; rfl, by rw [hd]; exact hS, by rw [hd]; exact H⟩
    · have h1 := H.2 j (ready_mono hj hji)
      obtain ⟨hjun, oj, hoj, hall⟩ := mem_ready.1 hj
      have hnot : ∀ e ∈ oj.after, Region.binds .any e = true → e.on ≠ i := fun e he hb heq => by
        have h1 := hall e he hb
        have h0 := (mem_ready.1 hr).1
        rw [heq] at h1
        rcases Nat.lt_or_ge i listed.size with h' | h'
        · simp [h'] at h0 h1; rw [h0] at h1; cases h1
        · simp [Array.getElem?_eq_none h'] at h1
      rw [hoj] at h1 ⊢
      have h2 := stepG_put hd (hfree j oj hoj hji hjun hnot) hy h1
      have hfree' : ∀ k ok, ops[k]? = some ok → k ≠ i → (listed.setIfInBounds j true).getD k true = false →
          (∀ e ∈ ok.after, Region.binds .any e = true → e.on ≠ i) → oi.apart ops ok = true := fun k ok hk hki hun hno => by
        refine hfree k ok hk hki ?_ hno
        by_cases hjk : j = k
        · subst hjk; exact hjun
        · rw [getD_set_ne true hjk] at hun; exact hun
      refine stepM_mono (fun st' h3 => ⟨h3.2.1, h3.2.2.1, ih (listed.setIfInBounds j true) st' hfree' (ready_mono hr (Ne.symm hji)) h3.1 h3.2.2.1 ?_⟩) h2
      rw [Array.setIfInBounds_comm _ _ hji]
      exact h3.2.2.2
theorem expG_take {K : St → Prop} {f : Nat} {listed : Array Bool} {tm : List AV} {S : Store} {mv : List Nat} (i : Nat) (oi : Oper) (v : AV) (d : Tmp) (hi : ops[i]? = some oi) (hd : oi.dst = some d) (hf : Region.free .any ops listed i = true)
    (hr : (Region.ready .any ops listed).contains i = true) (hS : Inv S) (hy : YieldH P ops Inv oi v tm) (h : expG P ops Inv f (listed.setIfInBounds i true) ⟨tm.set d v, S, mv⟩ K) : expG P ops Inv (f + 1) listed ⟨tm, S, mv⟩ K :=
  expG_first hi hd f listed ⟨tm, S, mv⟩ (Region.free_spec hi hf) (by simpa using hr) hy hS h
theorem expG_get {K : St → Prop} {f : Nat} {listed : Array Bool} {tm : List AV} {S : Store} {mv : List Nat} {op : Op} {ty : TypeId} {ps : String} {af : Array Edge} {d : Tmp} (i : Nat) (v : AV) (hi : ops[i]? = some ⟨some d, op, ty, ps, af, none⟩) (hf : Region.free .any ops listed i = true)
    (hr : (Region.ready .any ops listed).contains i = true) (hS : Inv S) (hy : ∀ S, Inv S → yieldR (opR (tiOf P) tm S op) v) (h : expG P ops Inv f (listed.setIfInBounds i true) ⟨tm.set d v, S, mv⟩ K) : expG P ops Inv (f + 1) listed ⟨tm, S, mv⟩ K := by
  refine expG_take i _ v d hi rfl hf hr hS (.inl ⟨rfl, fun S hS => ?_⟩) h
  have := hy S hS
  unfold yieldR at this
  split at this
  · rename_i φ u hr
    exact ⟨φ, by rw [hr, this.2], this.1⟩
  · exact this.elim
theorem expG_end {K : St → Prop} {f : Nat} {listed : Array Bool} {st : St} (hr : Region.ready .any ops listed = []) (h : K st) : expG P ops Inv f listed st K := by
  cases f with
  | zero => exact ⟨hr, h⟩
  | succ f => exact ⟨fun _ => h, fun i hi => by rw [hr] at hi; simp at hi⟩
theorem expG_one {K : St → Prop} {f : Nat} {listed : Array Bool} {st : St} (i : Nat) (hr : Region.ready .any ops listed = [i]) (h : stepE P ops ops[i]? st (fun st' => st'.mv = st.mv ∧ Inv st'.S ∧ expG P ops Inv f (listed.setIfInBounds i true) st' K)) : expG P ops Inv (f + 1) listed st K :=
  ⟨fun h0 => (by rw [hr] at h0; cases h0), fun k hk => (by rw [hr] at hk; obtain rfl := List.mem_singleton.1 hk; exact .inl h)⟩
/-- What is appended to an empty slice. -/
theorem expG_new {K : St → Prop} {f : Nat} {listed : Array Bool} {tm : List AV} {S : Store} {mv : List Nat} {op : Op} {ty : TypeId} {ps : String} {af : Array Edge} {d : Option Tmp} (i : Nat) (hi : ops[i]? = some ⟨d, op, ty, ps, af, none⟩) (hr : Region.ready .any ops listed = [i])
    (h : newK (opF (tiOf P) tm S op) d ⟨tm, S, mv⟩ (fun st' => st'.mv = mv ∧ Inv st'.S ∧ expG P ops Inv f (listed.setIfInBounds i true) st' K)) : expG P ops Inv (f + 1) listed ⟨tm, S, mv⟩ K :=
  ⟨fun h0 => (by rw [hr] at h0; cases h0), fun k hk => (by rw [hr] at hk; obtain rfl := List.mem_singleton.1 hk; exact .inr ⟨_, hi, rfl, h⟩)⟩
theorem cp_drawG {id : Nat} {ops : List Oper} {Q : Exit → St → Prop} {tm : List AV} {S : Store} {mv : List Nat} (n : Nat) (Inv : Store → Prop) (hm : P.follows .mixedOrders = true) (hn : ops.toArray.size = n)
    (h : expG P ops.toArray Inv n (Array.replicate n false) ⟨tm, S, mv⟩ (fun st' => Q .normal st')) : codeP P (.region id ops.toArray true) Q ⟨tm, S, mv⟩ := by
  subst hn
  intro ok w0 μ0 Sc μ a w hr
  exact wp_region_any hm (expG_any (fun st μ a w hk hr => ⟨st, μ, hk, hr⟩) _ _ _ μ a _ h hr.drew)
end
end
section
section
variable {P : Program} {ops : Array Oper}
/-- Whatever order is picked: the region ends in a state of K. -/
def ExpW (P : Program) (ops : Array Oper) (f : Nat) (listed : Array Bool) (st : St) (K : St → Prop) : Prop :=
  ∀ ok w0 μ0 Sc μ a w, RelT ok w0 μ0 Sc st μ a w → wpAny P .any ops (fun ex a' w' => ex = .normal ∧ ∃ st' μ', K st' ∧ RelT ok w0 μ0 Sc st' μ' a' w') f listed a w
theorem expW_P {f : Nat} {listed : Array Bool} {st : St} {K : St → Prop} (h : expP P ops f listed st K) : ExpW P ops f listed st K :=
  fun ok w0 μ0 Sc μ a w hr => exp_any (fun st μ a w hk hr => ⟨rfl, st, μ, hk, hr⟩) f listed st μ a w h hr
theorem expW_move {f : Nat} {listed : Array Bool} {tm : List AV} {S : Store} {mv : List Nat} {K : St → Prop} {t d : Tmp} {ty : TypeId} {ps : String} {af : Array Edge} (i : Nat) (hi : ops[i]? = some ⟨some d, .move (.tmp t), ty, ps, af, none⟩)
    (hs : Region.noSelect ops = true) (hf : Region.free .any ops listed i = true) (hr : (Region.ready .any ops listed).contains i = true) (h : ExpW P ops f (listed.setIfInBounds i true) ⟨tm.set d (tm.getD t .any), S, mv⟩ K) : ExpW P ops (f + 1) listed ⟨tm, S, mv⟩ K := by
  intro ok w0 μ0 Sc μ a w hrel
  refine wpAny_take hi hs hf hr (fun c a w h => by cases h.1) (v := a.eval (.tmp t)) (.inl ⟨rfl, fun w => ?_⟩) (h ok w0 μ0 Sc μ _ w (hrel.put (some d) (hrel.evs (.tmp t))))
  simp [execOp]
theorem cp_drawW {id : Nat} {ops : List Oper} {Q : Exit → St → Prop} {tm : List AV} {S : Store} {mv : List Nat} (n : Nat) (hm : P.follows .mixedOrders = true) (hn : ops.toArray.size = n)
    (h : ExpW P ops.toArray n (Array.replicate n false) ⟨tm, S, mv⟩ (fun st' => Q .normal st')) : codeP P (.region id ops.toArray true) Q ⟨tm, S, mv⟩ := by
  subst hn
  intro ok w0 μ0 Sc μ a w hr
  refine Code.wp_mono ?_ (wp_region_any hm (h ok w0 μ0 Sc μ a _ hr.drew))
  rintro ex a' w' ⟨rfl, st', μ', hk, hr'⟩
  exact ⟨st', μ', hk, hr'⟩
end
end
section
/-- Values with what they name of the object k as data. -/
inductive Fz0 (k : Nat) (o : AObj) : AV → AV → Prop
  | same (x : AV) : Fz0 k o x x
  | drop (off len : Nat) (ds : List D) (hl : off + len ≤ o.es.length) (h : IsDs ((o.es.drop off).take len) ds) : Fz0 k o (.own k o.z off len) (.sl o.z ds)
inductive Fz1 (k : Nat) (o : AObj) : AV → AV → Prop
  | of (x y : AV) (h : Fz0 k o x y) : Fz1 k o x y
  | agg (xs ys : List AV) (h : All2 (Fz0 k o) xs ys) : Fz1 k o (.agg xs) (.agg ys)
inductive FzT (k : Nat) (o : AObj) : AV → AV → Prop
  | of (x y : AV) (h : Fz1 k o x y) : FzT k o x y
  | tup (xs ys : List AV) (h : All2 (Fz1 k o) xs ys) : FzT k o (.tup xs) (.tup ys)
theorem Fz0.sca {k : Nat} {o : AObj} {x y : AV} (h : Fz0 k o x y) : y.scalar = x.scalar := by
  cases h <;> rfl
theorem Fz1.cells {k : Nat} {o : AObj} {x y : AV} (h : Fz1 k o x y) : All2 (Fz0 k o) x.cells y.cells := by
  cases h with
  | of _ _ h =>
    cases h with
    | same =>
      have : ∀ l : List AV, All2 (Fz0 k o) l l := fun l => by
        induction l with
        | nil => exact .nil
        | cons a l ih => exact .cons _ _ _ _ (.same a) ih
      exact this _
    | drop off len ds hl h => exact .cons _ _ _ _ (.drop off len ds hl h) .nil
  | agg xs ys h => exact h
section
variable {ok : Nat → Prop} {w : World} {μ : Nat → Nat} {S S' : Store} {k : Nat} {o : AObj} (hlv : ∀ b, liveB S' μ b → liveB S μ b) (hl : S'.length = S.length) (rs : RelS ok w μ S) (ho : getO S k = some o) (hd : o.es ≠ [] → ok (μ k) ∧ ¬ liveB S' μ (μ k))
include hlv hl rs ho hd
theorem Fz0.sound {x y : AV} {v : Value} (h : Fz0 k o x y) (hr : Rep ok w μ S x v) : Rep ok w μ S' y v := by
  cases h with
  | same => exact hr.live hl hlv
  | drop off len ds hle h => exact drop_sound rs hlv ho rfl hle h hd hr
theorem Fz1.sound {x y : AV} {v : Value} (h : Fz1 k o x y) (hr : Rep ok w μ S x v) : Rep ok w μ S' y v := by
  cases h with
  | of _ _ h => exact h.sound hlv hl rs ho hd hr
  | agg xs ys h =>
    cases hr with
    | agg _ vs hll hs hr =>
      refine .agg ys vs (by rw [h.len]; exact hll) ?_ ?_
      · intro y hy
        obtain ⟨j, hj, rfl⟩ := List.mem_iff_getElem.1 hy
        obtain ⟨x, hx, ha⟩ := h.get j _ (List.getElem?_eq_getElem hj)
        rw [ha.sca]
        exact hs x (List.mem_of_getElem? hx)
      · intro j y v hj hv
        obtain ⟨x, hx, ha⟩ := h.get j y hj
        exact ha.sound hlv hl rs ho hd (hr j x v hx hv)
theorem FzT.sound {x y : AV} {v : Value} (h : FzT k o x y) (hr : Rep ok w μ S x v) : Rep ok w μ S' y v := by
  cases h with
  | of _ _ h => exact h.sound hlv hl rs ho hd hr
  | tup xs ys h =>
    cases hr with
    | tup _ vs hll hr =>
      refine .tup ys vs (by rw [h.len]; exact hll) fun j y v hj hv => ?_
      obtain ⟨x, hx, ha⟩ := h.get j y hj
      exact ha.sound hlv hl rs ho hd (hr j x v hx hv)
end
/-- What a store is where the object k is none any more. -/
structure Frz (k : Nat) (o : AObj) (S S' : Store) : Prop where
  len : S'.length = S.length
  at_k : S'[k]? = some none
  get : ∀ (i : Nat) (b : AObj), S'[i]? = some (some b) → ∃ a, S[i]? = some (some a) ∧ b.z = a.z ∧ All2 (Fz1 k o) a.es b.es
theorem rel_freeze {n : Nat} {tm : List AV} {S S' : Store} {mv : List Nat} (k : Nat) {o : AObj} (hk : n ≤ k) (ho : getO S k = some o) (hf : Frz k o S S') (hm : ∀ i, i < n → mv.contains i = false ∧ ∃ o, getO S i = some o ∧ o.es ≠ [])
    {ok : Nat → Prop} {w0 : World} {μ0 : Nat → Nat} {S0 : Store} {μ : Nat → Nat} {a : Act} {w : World} (hn : S0.length = n) (hr : RelT ok w0 μ0 S0 ⟨tm, S, mv⟩ μ a w) :
    (∀ x y v, FzT k o x y → Rep ok w μ S x v → Rep ok w μ S' y v) ∧ RelS ok w μ S' ∧ (∀ b, liveB S' μ b → liveB S μ b) := by
  have hlv : ∀ b, liveB S' μ b → liveB S μ b := by
    rintro b ⟨i, x, hi, hne, e⟩
    obtain ⟨a, h1, h2, h3⟩ := hf.get i x hi
    refine ⟨i, a, h1, fun e2 => hne ?_, e⟩
    have := h3.len
    rw [e2] at this
    exact List.eq_nil_of_length_eq_zero this
  have hd : o.es ≠ [] → ok (μ k) ∧ ¬ liveB S' μ (μ k) := by
    intro hne
    refine ⟨hr.fr _ ?_, ?_⟩
    · rcases Nat.lt_or_ge (μ k) w0.heap.size with hlt | hge
      · obtain ⟨j, o0, hj, hne0, e⟩ := hr.lv _ hlt ⟨k, o, getO_some ho, hne, rfl⟩
        have hjn : j < n := by rw [← hn]; exact (List.getElem?_eq_some_iff.1 hj).1
        obtain ⟨m1, oj, m2, m3⟩ := hm j hjn
        have e2 := hr.mu j (by omega) m1
        have := hr.rs.inj j k oj o (getO_some m2) (getO_some ho) m3 hne (by rw [e2, e])
        omega
      · exact hge
    · rintro ⟨i, x, hi, hne2, e⟩
      obtain ⟨a, h1, h2, h3⟩ := hf.get i x hi
      have hna : a.es ≠ [] := fun e2 => by
        have := h3.len
        rw [e2] at this
        exact hne2 (List.eq_nil_of_length_eq_zero this)
      have := hr.rs.inj i k a o h1 (getO_some ho) hna hne e
      subst this
      rw [hf.at_k] at hi
      cases hi
  refine ⟨fun x y v h hv => h.sound hlv hf.len hr.rs ho hd hv, ⟨?_, ?_, ?_⟩, hlv⟩
  · intro i b hi hne
    obtain ⟨a, h1, h2, h3⟩ := hf.get i b hi
    have hna : a.es ≠ [] := fun e2 => by
      have := h3.len
      rw [e2] at this
      exact hne (List.eq_nil_of_length_eq_zero this)
    obtain ⟨cs, ty, q1, q2, q3⟩ := hr.rs.blk i a h1 hna
    refine ⟨cs, ty, q1, by rw [h3.len, h2]; exact q2, ?_⟩
    intro j y jj c hj hjj
    obtain ⟨x, hx, hxy⟩ := h3.get j y hj
    obtain ⟨c0, hc0, hcc⟩ := hxy.cells.get jj c hjj
    obtain ⟨v, hv, hrv⟩ := q3 j x jj c0 hx hc0
    exact ⟨v, by rw [h2]; exact hv, hcc.sound hlv hf.len hr.rs ho hd hrv⟩
  · intro i b hi
    obtain ⟨a, h1, h2, h3⟩ := hf.get i b hi
    obtain ⟨q1, q2⟩ := hr.rs.siz i a h1
    refine ⟨by rw [h2]; exact q1, fun y hy => ?_⟩
    obtain ⟨j, hj, rfl⟩ := List.mem_iff_getElem.1 hy
    obtain ⟨x, hx, hxy⟩ := h3.get j _ (List.getElem?_eq_getElem hj)
    obtain ⟨p1, p2⟩ := q2 x (List.mem_of_getElem? hx)
    refine ⟨by rw [hxy.cells.len, h2]; exact p1, fun c hc => ?_⟩
    obtain ⟨jj, hjj, rfl⟩ := List.mem_iff_getElem.1 hc
    obtain ⟨c0, hc0, hcc⟩ := hxy.cells.get jj _ (List.getElem?_eq_getElem hjj)
    rw [hcc.sca]
    exact p2 c0 (List.mem_of_getElem? hc0)
  · intro i j oi oj hi hj ni nj e
    obtain ⟨a, h1, h2, h3⟩ := hf.get i oi hi
    obtain ⟨b, g1, g2, g3⟩ := hf.get j oj hj
    refine hr.rs.inj i j a b h1 g1 (fun e2 => ?_) (fun e2 => ?_) e
    · have := h3.len
      rw [e2] at this
      exact ni (List.eq_nil_of_length_eq_zero this)
    · have := g3.len
      rw [e2] at this
      exact nj (List.eq_nil_of_length_eq_zero this)
theorem relT_freeze {n : Nat} {tm tm' : List AV} {S S' : Store} {mv : List Nat} (k : Nat) {o : AObj} (hk : n ≤ k) (ho : getO S k = some o) (hf : Frz k o S S') (hm : ∀ i, i < n → mv.contains i = false ∧ ∃ o, getO S i = some o ∧ o.es ≠ [])
    (ht : All2 (FzT k o) tm tm') {ok : Nat → Prop} {w0 : World} {μ0 : Nat → Nat} {S0 : Store} {μ : Nat → Nat} {a : Act} {w : World} (hn : S0.length = n) (hr : RelT ok w0 μ0 S0 ⟨tm, S, mv⟩ μ a w) : RelT ok w0 μ0 S0 ⟨tm', S', mv⟩ μ a w := by
  obtain ⟨h1, h2, h3⟩ := rel_freeze k hk ho hf hm hn hr
  refine ⟨h2, hr.fr, hr.df, ?_, ?_, hr.md, fun b hb hl => hr.lv b hb (h3 b hl), ?_, hr.mu⟩
  · show a.tmps.size = tm'.length
    rw [ht.len]
    exact hr.sz
  · intro t y hy
    obtain ⟨x, hx, hxy⟩ := ht.get t y hy
    exact h1 x y _ hxy (hr.tm t x hx)
  · show S0.length ≤ S'.length
    rw [hf.len]
    exact hr.ln
theorem all2_any {k : Nat} {o : AObj} (tm : List AV) : All2 (FzT k o) tm tm := by
  induction tm with
  | nil => exact .nil
  | cons x tm ih => exact .cons _ _ _ _ (.of _ _ (.of _ _ (.same x))) ih
/-- A body's end: the object k is data there. -/
theorem fin_freeze (k : Nat) {n : Nat} {r r' : AV} {S S' : Store} {mv : List Nat} {o : AObj} {Q : AV → Store → List Nat → Prop} (hk : n ≤ k) (ho : getO S k = some o) (hf : Frz k o S S') (hm : ∀ i, i < n → mv.contains i = false ∧ ∃ o, getO S i = some o ∧ o.es ≠ [])
    (hr : FzT k o r r') (h : Fin n r' S' mv Q) : Fin n r S mv Q := by
  obtain ⟨r1, S1, mv1, hq, hs⟩ := h
  refine ⟨r1, S1, mv1, hq, ?_⟩
  intro ok w0 μ0 S0 μ a w v tm h0 hrel hv
  exact hs ok w0 μ0 S0 μ a w v tm h0 (relT_freeze k hk ho hf hm (all2_any tm) h0 hrel) ((rel_freeze k hk ho hf hm h0 hrel).1 r r' v hr hv)
end
section

end
section
structure Rc where
  kind : Int
  tx : Int
  page : Int
  slot : Int
  old : Int
  new : Int
  prev : Int
  next : Int
deriving DecidableEq
instance : Inhabited Rc := ⟨⟨0, 0, 0, 0, 0, 0, 0, 0⟩⟩
structure Pg where
  lsn : Int
  owner : Int
  vals : List Int
deriving DecidableEq
instance : Inhabited Pg := ⟨⟨0, 0, []⟩⟩
structure Eng where
  disk : List Pg
  mem : List Pg
  log : List Rc
  safe : Int
  down : Bool
deriving DecidableEq
def iD (n : Int) : D := .prim (.int .i64 n)
def rD (r : Rc) : D := .agg [iD r.kind, iD r.tx, iD r.page, iD r.slot, iD r.old, iD r.new, iD r.prev, iD r.next]
def pD (p : Pg) : D := .agg [iD p.lsn, iD p.owner, .sl 1 (p.vals.map iD)]
abbrev ints (l : List Int) : AV := .sl 1 (l.map iD)
abbrev recs (l : List Rc) : AV := .sl 8 (l.map rD)
abbrev pgs (l : List Pg) : AV := .sl 3 (l.map pD)
abbrev rA (r : Rc) : AV := .agg [I r.kind, I r.tx, I r.page, I r.slot, I r.old, I r.new, I r.prev, I r.next]
abbrev pA (p : Pg) : AV := .agg [I p.lsn, I p.owner, ints p.vals]
abbrev eA (e : Eng) : AV := .agg [pgs e.disk, pgs e.mem, recs e.log, I e.safe, Bo e.down]
/-- The n-th of a list; n may be any number. -/
def at' {α : Type} [Inhabited α] (l : List α) (n : Int) : α := l.getD n.toNat default
@[go_sem] theorem iD_av0 (n : Int) : (iD n).av0 = I n := rfl
@[go_sem] theorem iD_cells (n : Int) : (iD n).cells = [iD n] := rfl
@[go_sem] theorem rD_cells (r : Rc) : (rD r).cells = [iD r.kind, iD r.tx, iD r.page, iD r.slot, iD r.old, iD r.new, iD r.prev, iD r.next] := rfl
@[go_sem] theorem pD_cells (p : Pg) : (pD p).cells = [iD p.lsn, iD p.owner, .sl 1 (p.vals.map iD)] := rfl
section
variable {P : Program}
/-- An element of a slice of data. -/
def idx {α : Type} (z : Nat) (te : TI) (f : α → D) (l : List α) (n : Int) : OpR := indexS (some te) (.sl z (l.map f)) n
@[go_sem 2000] theorem indexS_map {α : Type} {te : TI} {z : Nat} {f : α → D} {l : List α} {n : Int} : indexS (some te) (.sl z (l.map f)) n = idx z te f l n := rfl
theorem idx_eq {α : Type} [Inhabited α] {f : α → D} {l : List α} {n : Int} (h : n.toNat < l.length) : ((l.map f).getD n.toNat default).cells = (f (at' l n)).cells := by
  simp [at', List.getD, List.getElem?_eq_getElem h]
@[go_sem] theorem afterR_idx {α : Type} [Inhabited α] {z : Nat} {te : TI} {f : α → D} {l : List α} {n : Int} {d : Tmp} {tm : List AV} {S : Store} {mv : List Nat} {K : St → Prop} :
    afterR P (idx z te f l n) (some d) ⟨tm, S, mv⟩ K = ((0 ≤ n ∧ n.toNat < l.length ∧ te.zs.length = z) ∧ K ⟨tm.set d (.ro (f (at' l n)).cells), S, mv⟩) := by
  unfold idx
  rw [indexS_sl, afterR_val]
  refine propext ?_
  rw [List.length_map]
  constructor
  · rintro ⟨h, k⟩
    rw [idx_eq h.2.1] at k
    exact ⟨h, k⟩
  · rintro ⟨h, k⟩
    rw [← idx_eq h.2.1] at k
    exact ⟨h, k⟩
@[go_sem] theorem afterPre_idx {α : Type} [Inhabited α] {S0 : Store} {z : Nat} {te : TI} {f : α → D} {l : List α} {n : Int} {d : Tmp} {tm : List AV} {N : List AObj} {K : List AV → List AObj → Prop} :
    afterPre P S0 (idx z te f l n) d tm N K = ((0 ≤ n ∧ n.toNat < l.length ∧ te.zs.length = z) ∧ K (tm.set d (.ro (f (at' l n)).cells)) N) := by
  unfold idx
  rw [indexS_sl, afterPre_val]
  refine propext ?_
  rw [List.length_map]
  constructor
  · rintro ⟨h, _, k⟩
    rw [idx_eq h.2.1] at k
    exact ⟨h, k⟩
  · rintro ⟨h, k⟩
    rw [← idx_eq h.2.1] at k
    exact ⟨h, rfl, k⟩
end
theorem take_map {α β : Type} (f : α → β) (l : List α) (n : Nat) : (l.map f).take n = (l.take n).map f := List.map_take.symm
theorem drop_map {α β : Type} (f : α → β) (l : List α) (n : Nat) : (l.map f).drop n = (l.drop n).map f := List.map_drop.symm
def onO (o : Option TI) (f : TI → OpR) : OpR := match o with | some ti => f ti | none => .stuck
@[go_sem] theorem onT_eq {T : TypeId → Option TI} {t : TypeId} {f : TI → OpR} : onT T t f = onO (T t) f := rfl
@[go_sem] theorem onO_some {ti : TI} {f : TI → OpR} : onO (some ti) f = f ti := rfl
attribute [go_sem] Option.map_some Option.map_none
@[go_sem] theorem ok_agg {xs : List AV} : AV.ok (.agg xs) = true := rfl
@[go_sem] theorem ok_prim {v : Value} : AV.ok (.prim v) = true := rfl
@[go_sem] theorem ok_sl {z : Nat} {xs : List D} : AV.ok (.sl z xs) = true := rfl
@[go_sem] theorem ok_own {i z o l : Nat} : AV.ok (.own i z o l) = true := rfl
@[go_sem] theorem ok_ref {i z o l : Nat} : AV.ok (.ref i z o l) = true := rfl
@[go_sem] theorem sca_prim {v : Value} : AV.scalar (.prim v) = true := rfl
@[go_sem] theorem sca_sl {z : Nat} {xs : List D} : AV.scalar (.sl z xs) = true := rfl
@[go_sem] theorem sca_own {i z o l : Nat} : AV.scalar (.own i z o l) = true := rfl
@[go_sem] theorem sca_ref {i z o l : Nat} : AV.scalar (.ref i z o l) = true := rfl
attribute [go_sem] Bool.and_true Bool.true_and
theorem drop_at {α : Type} [Inhabited α] (l : List α) (i : Nat) (h : i < l.length) : l.drop i = at' l (i : Int) :: l.drop (i + 1) := by
  simp [at', List.getD, List.getElem?_eq_getElem h]
theorem toNat_cast (n : Nat) : ((n : Int)).toNat = n := Int.toNat_natCast n
def bndV (x : AV) : Option Int := match x with | .prim (.int _ n) => some n | _ => none
@[go_sem] theorem bnd_none {tm : List AV} {d : Int} : bnd tm d none = some d := rfl
@[go_sem] theorem bnd_some {tm : List AV} {d : Int} {x : Operand} : bnd tm d (some x) = bndV (ev tm x) := by simp only [bnd, bndV]; rfl
@[go_sem] theorem bndV_int {k : IntKind} {n : Int} : bndV (.prim (.int k n)) = some n := rfl
def sliceO (te : Option TI) (tm : List AV) (x : AV) (lo hi mx : Option Operand) : OpR := match te with
    | some te => match x, mx with
      | .sl z xs, none => match bnd tm 0 lo, bnd tm xs.length hi with
        | some l, some h => .val (0 ≤ l ∧ l ≤ h ∧ h ≤ xs.length ∧ te.zs.length = z) (.sl z ((xs.take h.toNat).drop l.toNat))
        | _, _ => .stuck
      | .own i z off len, none => match bnd tm 0 lo, bnd tm len hi with
        | some l, some h => .val (0 ≤ l ∧ l < h ∧ h ≤ len ∧ te.zs.length = z) (.own i z (off + l.toNat) (h.toNat - l.toNat))
        | _, _ => .stuck
      | .own i z off len, some m => match bnd tm 0 lo, bnd tm 0 hi, bnd tm 0 (some m) with
        | some l, some h, some m => .val (l = 0 ∧ h = len ∧ m = len ∧ te.zs.length = z ∧ hi.isSome = true) (.own i z off len)
        | _, _, _ => .stuck
      | _, _ => .stuck
    | none => .stuck
@[go_sem] theorem sliceR_sl {T : TypeId → Option TI} {tm : List AV} {b : Bool} {zs : List Value} {c : Nat} {e : TypeId} {x : AV} {lo hi mx : Option Operand} : sliceR T tm ⟨b, zs, c, .slice e⟩ x lo hi mx = sliceO (T e) tm x lo hi mx := by
  simp only [sliceR, sliceO]; rfl
def sliceB (te : TI) (z : Nat) (xs : List D) (l h : Option Int) : OpR := match l, h with
  | some l, some h => .val (0 ≤ l ∧ l ≤ h ∧ h ≤ xs.length ∧ te.zs.length = z) (.sl z ((xs.take h.toNat).drop l.toNat))
  | _, _ => .stuck
@[go_sem] theorem sliceO_sl {te : TI} {tm : List AV} {z : Nat} {xs : List D} {lo hi : Option Operand} : sliceO (some te) tm (.sl z xs) lo hi none = sliceB te z xs (bnd tm 0 lo) (bnd tm xs.length hi) := by
  simp only [sliceO, sliceB]
@[go_sem] theorem sliceB_some {te : TI} {z : Nat} {xs : List D} {l h : Int} : sliceB te z xs (some l) (some h) = .val (0 ≤ l ∧ l ≤ h ∧ h ≤ xs.length ∧ te.zs.length = z) (.sl z ((xs.take h.toNat).drop l.toNat)) := rfl
attribute [go_sem] take_map drop_map Int.toNat_zero List.drop_zero
@[go_sem] theorem zav_agg {zs : List Value} {n : Nat} {sh : Sh} : TI.zav ⟨true, zs, n, sh⟩ = .agg (zs.map AV.prim) := rfl
@[go_sem] theorem zav_one {v : Value} {n : Nat} {sh : Sh} : TI.zav ⟨false, [v], n, sh⟩ = .prim v := rfl
theorem wrap_ok {n : Int} (h1 : -9223372036854775808 ≤ n) (h2 : n < 9223372036854775808) : IntKind.i64.wrap n = n := by
  rw [IntKind.wrap_i64]; omega
/-- A count, one more. -/
theorem wrap_succ {n : Nat} (h : n < 4611686018427387904) : IntKind.i64.wrap ((n : Int) + 1) = ((n + 1 : Nat) : Int) := by rw [wrap_ok (by omega) (by omega)]; rfl
theorem wrap_m1 {n : Nat} (h : n < 4611686018427387904) : IntKind.i64.wrap ((n : Int) - 1) = (n : Int) - 1 := wrap_ok (by omega) (by omega)
theorem succ_m1 {n : Nat} : (((n + 1 : Nat) : Int) - 1) = (n : Int) := by omega
theorem cast0 : ((0 : Nat) : Int) = 0 := rfl
theorem succ_pos' {n : Nat} : (0 < ((n + 1 : Nat) : Int)) = True := eq_true (by omega)
theorem succ_ne' {n : Nat} : (((n + 1 : Nat) : Int) == 0) = false := by simp; omega
theorem succ_bne' {n : Nat} : (((n + 1 : Nat) : Int) != 0) = true := by simp; omega
theorem wrap_nat {n : Nat} (h : n < 4611686018427387904) : IntKind.i64.wrap (n : Int) = (n : Int) := wrap_ok (by omega) (by omega)
end
end Go.Proofs.YtfcnajhanjhonaaGreat.Am
end
section
set_option linter.unusedVariables false
namespace Go.Proofs.YtfcnajhanjhonaaGreat.Am
open Go Go.RowKit Go.Proofs
theorem ty_int : tiOf Tryz.prog 3 = some ⟨false, [.int .i64 0], 8, .int .i64⟩ := by kernel_rfl
theorem ty_bool : tiOf Tryz.prog 4 = some ⟨false, [.bool false], 1, .bool⟩ := by kernel_rfl
theorem ty_str : tiOf Tryz.prog 9 = some ⟨false, [.string .empty], 16, .str⟩ := by kernel_rfl
theorem ty_u8 : tiOf Tryz.prog 5 = some ⟨false, [.int .u8 0], 1, .int .u8⟩ := by kernel_rfl
theorem ty_ints : tiOf Tryz.prog 26 = some ⟨false, [.slice none 0 0], 24, .slice 3⟩ := by kernel_rfl
theorem ty_bytes : tiOf Tryz.prog 41 = some ⟨false, [.slice none 0 0], 24, .slice 5⟩ := by kernel_rfl
theorem ty_page : tiOf Tryz.prog 56 = some ⟨true, [.int .i64 0, .int .i64 0, .slice none 0 0], 40, .struct [0, 1, 2]⟩ := by kernel_rfl
theorem ty_pages : tiOf Tryz.prog 28 = some ⟨false, [.slice none 0 0], 24, .slice 56⟩ := by kernel_rfl
theorem ty_lpage : tiOf Tryz.prog 104 = some ⟨true, [.int .i64 0, .int .i64 0, .slice none 0 0], 40, .struct [0, 1, 2]⟩ := by kernel_rfl
theorem ty_lpages : tiOf Tryz.prog 22 = some ⟨false, [.slice none 0 0], 24, .slice 104⟩ := by kernel_rfl
theorem ty_rec : tiOf Tryz.prog 48 = some ⟨true, [.int .i64 0, .int .i64 0, .int .i64 0, .int .i64 0, .int .i64 0, .int .i64 0, .int .i64 0, .int .i64 0], 64, .struct [0, 1, 2, 3, 4, 5, 6, 7]⟩ := by kernel_rfl
theorem ty_recs : tiOf Tryz.prog 29 = some ⟨false, [.slice none 0 0], 24, .slice 48⟩ := by kernel_rfl
theorem ty_lrec : tiOf Tryz.prog 109 = some ⟨true, [.int .i64 0, .int .i64 0, .int .i64 0, .int .i64 0, .int .i64 0, .int .i64 0, .int .i64 0, .int .i64 0], 64, .struct [0, 1, 2, 3, 4, 5, 6, 7]⟩ := by kernel_rfl
theorem ty_lrecs : tiOf Tryz.prog 23 = some ⟨false, [.slice none 0 0], 24, .slice 109⟩ := by kernel_rfl
theorem ty_eng : tiOf Tryz.prog 31 = some ⟨true, [.slice none 0 0, .slice none 0 0, .slice none 0 0, .int .i64 0, .bool false], 88, .struct [0, 1, 2, 3, 4]⟩ := by kernel_rfl
theorem ty_leng : tiOf Tryz.prog 25 = some ⟨true, [.slice none 0 0, .slice none 0 0, .slice none 0 0, .int .i64 0, .bool false], 88, .struct [0, 1, 2, 3, 4]⟩ := by kernel_rfl
theorem ty_arr4 : tiOf Tryz.prog 119 = some ⟨true, [.int .i64 0, .int .i64 0, .int .i64 0, .int .i64 0], 32, .array 4 3⟩ := by kernel_rfl
theorem mixed : Tryz.prog.follows .mixedOrders = true := by kernel_rfl
end Go.Proofs.YtfcnajhanjhonaaGreat.Am
end
section
set_option linter.unusedVariables false
set_option linter.unusedSimpArgs false
namespace Go.Proofs.YtfcnajhanjhonaaGreat.Am
open Go Go.RowKit
section
def isIn (n lo hi : Int) : Bool := decide (lo ≤ n) && decide (n ≤ hi)
def allFrom (f : Nat → Bool) (i n : Nat) : Bool := if h : i < n then f i && allFrom f (i + 1) n else true
termination_by n - i
def anyFrom (f : Nat → Bool) (i n : Nat) : Bool := if h : i < n then f i || anyFrom f (i + 1) n else false
termination_by n - i
theorem allFrom_lt {f : Nat → Bool} {i n : Nat} (h : i < n) : allFrom f i n = (f i && allFrom f (i + 1) n) := by rw [allFrom]; simp [h]
theorem allFrom_ge {f : Nat → Bool} {i n : Nat} (h : ¬ i < n) : allFrom f i n = true := by rw [allFrom]; simp [h]
theorem anyFrom_lt {f : Nat → Bool} {i n : Nat} (h : i < n) : anyFrom f i n = (f i || anyFrom f (i + 1) n) := by rw [anyFrom]; simp [h]
theorem anyFrom_ge {f : Nat → Bool} {i n : Nat} (h : ¬ i < n) : anyFrom f i n = false := by rw [anyFrom]; simp [h]
theorem allFrom_iff {f : Nat → Bool} {n : Nat} : ∀ {i : Nat}, allFrom f i n = true ↔ ∀ k, i ≤ k → k < n → f k = true := by
  intro i
  induction hm : n - i generalizing i with
  | zero =>
    rw [allFrom_ge (by omega)]
    exact ⟨fun _ k h1 h2 => by omega, fun _ => rfl⟩
  | succ m ih =>
    rw [allFrom_lt (by omega), Bool.and_eq_true, ih (by omega)]
    constructor
    · rintro ⟨h0, h⟩ k h1 h2
      rcases Nat.eq_or_lt_of_le h1 with rfl | h1
      · exact h0
      · exact h k h1 h2
    · intro h
      exact ⟨h i (Nat.le_refl _) (by omega), fun k h1 h2 => h k (by omega) h2⟩
theorem anyFrom_iff {f : Nat → Bool} {n : Nat} : ∀ {i : Nat}, anyFrom f i n = true ↔ ∃ k, i ≤ k ∧ k < n ∧ f k = true := by
  intro i
  induction hm : n - i generalizing i with
  | zero =>
    rw [anyFrom_ge (by omega)]
    exact ⟨fun h => (by cases h), fun ⟨k, h1, h2, _⟩ => (by omega)⟩
  | succ m ih =>
    rw [anyFrom_lt (by omega), Bool.or_eq_true, ih (by omega)]
    constructor
    · rintro (h | ⟨k, h1, h2, h3⟩)
      · exact ⟨i, Nat.le_refl _, by omega, h⟩
      · exact ⟨k, by omega, h2, h3⟩
    · rintro ⟨k, h1, h2, h3⟩
      rcases Nat.eq_or_lt_of_le h1 with rfl | h1
      · exact .inl h3
      · exact .inr ⟨k, h1, h2, h3⟩
def Pg.good (p : Pg) (v : Int) : Bool := isIn v 0 9 && (p.owner != 0 || v == 0)
def Pg.ok (p : Pg) : Bool := isIn p.lsn 0 150 && isIn p.owner 0 3 && decide (p.vals.length = 3) && allFrom (fun k => p.good (at' p.vals k)) 0 p.vals.length
def pgsOk (ps : List Pg) : Bool := allFrom (fun k => (at' ps k).ok) 0 ps.length && decide (ps.length = 5)
def Rc.of (r : Rc) : Bool := isIn r.page 0 4 && isIn r.slot (-1) 2 && isIn r.old 0 (if r.slot < 0 then 3 else 9) && isIn r.new 0 (if r.slot < 0 then 3 else 9)
def Rc.ok (r : Rc) : Bool :=
  isIn r.tx 1 3 && isIn r.prev 0 150 && isIn r.next 0 150 &&
  (if r.kind = 1 then r.of && decide (0 ≤ r.slot) && decide (r.next = 0)
   else if r.kind = 2 then r.of && decide (r.slot < 0) && decide (r.next = 0)
   else if r.kind = 6 then r.of && decide (r.old = 0)
   else if r.kind = 3 then isIn r.page 0 4 && decide (r.slot = 0) && decide (r.old = 0) && decide (r.new = 0) && decide (r.next = 0)
   else if r.kind = 4 ∨ r.kind = 5 then decide (r.page = 0) && decide (r.slot = 0) && decide (r.old = 0) && decide (r.new = 0) && decide (r.next = 0)
   else false)
def Rc.ends (r : Rc) : Bool := decide (r.kind = 4) || decide (r.kind = 5)
def chg (k : Int) : Bool := decide (k = 1) || decide (k = 2) || decide (k = 6)
def Rc.back (r : Rc) (prev : Int) : Rc := ⟨6, r.tx, r.page, r.slot, 0, r.old, prev, r.prev⟩
/-- The number of the last record of a transaction among the first n; 0, if it ended or did not begin. -/
def lastTo (l : List Rc) (tx : Int) : Nat → Nat
  | 0 => 0
  | n + 1 => if (at' l (n : Int)).tx = tx then (if (at' l (n : Int)).ends then 0 else n + 1) else lastTo l tx n
def lastN (l : List Rc) (tx : Int) : Nat := lastTo l tx l.length
theorem lastTo_le (l : List Rc) (tx : Int) : ∀ n, lastTo l tx n ≤ n
  | 0 => Nat.le_refl _
  | n + 1 => by
    have := lastTo_le l tx n
    unfold lastTo
    (repeat' split) <;> omega
theorem at_take {α : Type} [Inhabited α] (l : List α) (n : Nat) {i : Nat} (h : i < n) : at' (l.take n) (i : Int) = at' l (i : Int) := by
  simp [at', List.getD, List.getElem?_take, h]
theorem lastTo_take (l : List Rc) (tx : Int) (m : Nat) : ∀ n, n ≤ m → lastTo (l.take m) tx n = lastTo l tx n
  | 0, _ => rfl
  | n + 1, h => by
    unfold lastTo
    rw [at_take l m (by omega), lastTo_take l tx m n (by omega)]
theorem lastN_take (l : List Rc) (tx : Int) {i : Nat} (h : i ≤ l.length) : lastN (l.take i) tx = lastTo l tx i := by
  unfold lastN
  rw [List.length_take, Nat.min_eq_left h, lastTo_take l tx i i (Nat.le_refl _)]
def stepOk (l : List Rc) (i : Nat) : Bool :=
  (at' l (i : Int)).ok && decide ((at' l (i : Int)).prev = lastTo l (at' l (i : Int)).tx i) && decide ((at' l (i : Int)).next ≤ i) &&
  (decide ((at' l (i : Int)).next ≤ 0) || decide ((at' l ((at' l (i : Int)).next - 1)).tx = (at' l (i : Int)).tx))
def logOk (l : List Rc) : Bool := allFrom (stepOk l) 0 l.length && decide (l.length ≤ 150)
theorem logOk_step {l : List Rc} (h : logOk l = true) {i : Nat} (hi : i < l.length) : stepOk l i = true := by
  unfold logOk at h
  rw [Bool.and_eq_true, allFrom_iff] at h
  exact h.1 i (Nat.zero_le _) hi
theorem logOk_len {l : List Rc} (h : logOk l = true) : l.length ≤ 150 := by
  unfold logOk at h
  rw [Bool.and_eq_true] at h
  simpa using h.2
end
section
/-- A log whose records point back. -/
structure Wf (l : List Rc) : Prop where
  len : l.length ≤ 200
  prev : ∀ i : Nat, i < l.length → ∃ m : Nat, m ≤ i ∧ (at' l (i : Int)).prev = (m : Int)
  next : ∀ i : Nat, i < l.length → ∃ m : Nat, m ≤ i ∧ (at' l (i : Int)).next = (m : Int)
  rok : ∀ i : Nat, i < l.length → (at' l (i : Int)).ok = true
theorem Rc.ok_next {r : Rc} (h : r.ok = true) : 0 ≤ r.next := by
  unfold Rc.ok at h
  simp only [Bool.and_eq_true] at h
  have := h.1.2
  unfold isIn at this
  simp at this
  omega
theorem wf_of {l : List Rc} (h : logOk l = true) : Wf l := by
  refine ⟨by have := logOk_len h; omega, ?_, ?_, ?_⟩ <;> intro i hi <;> have hs := logOk_step h hi <;> unfold stepOk at hs <;> simp only [Bool.and_eq_true, decide_eq_true_eq] at hs
  · exact ⟨_, lastTo_le l _ i, hs.1.1.2⟩
  · have h0 := Rc.ok_next hs.1.1.1
    exact ⟨(at' l (i : Int)).next.toNat, by omega, by omega⟩
  · exact hs.1.1.1
def chain (l : List Rc) : Nat → List Nat
  | 0 => []
  | n + 1 => if h : (at' l (n : Int)).prev.toNat < n + 1 then (n + 1) :: chain l (at' l (n : Int)).prev.toNat else [n + 1]
theorem chain_zero (l : List Rc) : chain l 0 = [] := by rw [chain]
theorem chain_succ {l : List Rc} {n m : Nat} (hp : (at' l (n : Int)).prev = (m : Int)) (hm : m ≤ n) : chain l (n + 1) = (n + 1) :: chain l m := by
  rw [chain, hp]
  simp [show m < n + 1 by omega]
def backN (l : List Rc) : Nat → Nat
  | 0 => 0
  | n + 1 =>
    if (at' l (n : Int)).kind = 1 ∨ (at' l (n : Int)).kind = 2 then n + 1
    else if (at' l (n : Int)).kind = 6 then (if h : (at' l (n : Int)).next.toNat < n + 1 then backN l (at' l (n : Int)).next.toNat else 0)
    else (if h : (at' l (n : Int)).prev.toNat < n + 1 then backN l (at' l (n : Int)).prev.toNat else 0)
theorem backN_zero (l : List Rc) : backN l 0 = 0 := by rw [backN]
theorem backN_hit {l : List Rc} {n : Nat} (h : (at' l (n : Int)).kind = 1 ∨ (at' l (n : Int)).kind = 2) : backN l (n + 1) = n + 1 := by rw [backN, if_pos h]
theorem backN_undo {l : List Rc} {n m : Nat} (h : (at' l (n : Int)).kind = 6) (hp : (at' l (n : Int)).next = (m : Int)) (hm : m ≤ n) : backN l (n + 1) = backN l m := by
  rw [backN, if_neg (by omega), if_pos h, hp]
  simp [show m < n + 1 by omega]
theorem backN_prev {l : List Rc} {n m : Nat} (h1 : (at' l (n : Int)).kind ≠ 1) (h2 : (at' l (n : Int)).kind ≠ 2) (h3 : (at' l (n : Int)).kind ≠ 6) (hp : (at' l (n : Int)).prev = (m : Int)) (hm : m ≤ n) : backN l (n + 1) = backN l m := by
  rw [backN, if_neg (by omega), if_neg h3, hp]
  simp [show m < n + 1 by omega]
theorem backN_le (l : List Rc) (n : Nat) : backN l n ≤ n := by
  induction n using Nat.strongRecOn with
  | _ n ih =>
    rcases n with _ | n
    · rw [backN_zero]; exact Nat.le_refl _
    · rw [backN]
      (repeat' split) <;> first | omega | (have := ih _ ‹_›; omega)
/-- The records to undo, from a number on, the last one first. -/
def undosN (l : List Rc) (n : Nat) : List Nat :=
  match hb : backN l n with
  | 0 => []
  | b + 1 => if h : (at' l (b : Int)).prev.toNat < n then (b + 1) :: undosN l (at' l (b : Int)).prev.toNat else [b + 1]
termination_by n
theorem undosN_zero {l : List Rc} {n : Nat} (h : backN l n = 0) : undosN l n = [] := by
  rw [undosN]
  split
  · rfl
  · rename_i b hb; omega
theorem undosN_succ {l : List Rc} {n b m : Nat} (h : backN l n = b + 1) (hp : (at' l (b : Int)).prev = (m : Int)) (hm : m ≤ b) : undosN l n = (b + 1) :: undosN l m := by
  have hle := backN_le l n
  rw [undosN]
  split
  · rename_i hb; omega
  · rename_i b' hb
    have : b' = b := by omega
    subst this
    rw [hp]
    simp [show m < n by omega]
theorem lastN_le (l : List Rc) (tx : Int) : lastN l tx ≤ l.length := lastTo_le l tx _
def hasIn (l : List Rc) (tx page : Int) : Bool := (chain l (lastN l tx)).any fun n => decide ((at' l ((n : Int) - 1)).page = page)
def loadIn (l : List Rc) (tx page : Int) : Bool := (chain l (lastN l tx)).any fun n => decide ((at' l ((n : Int) - 1)).kind = 3) && decide ((at' l ((n : Int) - 1)).page = page)
theorem undosN_len (l : List Rc) (n : Nat) : (undosN l n).length ≤ n := by
  induction n using Nat.strongRecOn with
  | _ n ih =>
    have hle := backN_le l n
    rcases hb : backN l n with _ | b
    · rw [undosN_zero hb]; simp
    · rw [undosN]
      split
      · simp
      · rename_i b' hb'
        split
        · rename_i h
          have := ih _ h
          have : b' = b := by omega
          subst this
          by_cases hz : (at' l (b' : Int)).prev.toNat < b' + 1
          · simp; omega
          · simp; omega
        · simp; omega
def needFor (l : List Rc) (tx : Int) : Nat := (if 0 < lastN l tx then 1 else 0) + (undosN l (lastN l tx)).length
def needTo (l : List Rc) : Nat → Nat
  | 0 => 0
  | t + 1 => needTo l t + needFor l ((t + 1 : Nat) : Int)
theorem needFor_le (l : List Rc) (hw : Wf l) (tx : Int) : needFor l tx ≤ 201 := by
  have h1 := undosN_len l (lastN l tx)
  have h2 := lastN_le l tx
  have h3 := hw.len
  unfold needFor
  split <;> omega
theorem needTo_le (l : List Rc) (hw : Wf l) : ∀ t, needTo l t ≤ 201 * t
  | 0 => Nat.le_refl _
  | t + 1 => by
    have := needTo_le l hw t
    have := needFor_le l hw ((t + 1 : Nat) : Int)
    unfold needTo
    omega
/-- The first open transaction, from t + 1 on, that holds a page; 0, if there is none. -/
def lockFrom (l : List Rc) (page : Int) (t : Nat) : Nat := if h : t < 3 then (if hasIn l ((t + 1 : Nat) : Int) page then t + 1 else lockFrom l page (t + 1)) else 0
termination_by 3 - t
theorem lockFrom_lt {l : List Rc} {page : Int} {t : Nat} (h : t < 3) : lockFrom l page t = if hasIn l ((t + 1 : Nat) : Int) page then t + 1 else lockFrom l page (t + 1) := by rw [lockFrom]; simp [h]
theorem lockFrom_ge {l : List Rc} {page : Int} {t : Nat} (h : ¬ t < 3) : lockFrom l page t = 0 := by rw [lockFrom]; simp [h]
/-- The number of the last record of a page among the first n. -/
def pageTo (l : List Rc) (page : Int) : Nat → Nat
  | 0 => 0
  | n + 1 => if (at' l (n : Int)).page = page ∧ (chg (at' l (n : Int)).kind = true ∨ (at' l (n : Int)).kind = 3) then n + 1 else pageTo l page n
def loadedIn (l : List Rc) (page : Int) : Bool := anyFrom (fun t => loadIn l ((t + 1 : Nat) : Int) page) 0 3
end
end Go.Proofs.YtfcnajhanjhonaaGreat.Am
end
section
set_option linter.unusedVariables false
set_option linter.unusedSimpArgs false
namespace Go.Proofs.YtfcnajhanjhonaaGreat.Am
open Go Go.RowKit Go.Proofs
attribute [local go_sem_proc] Nat.reduceAdd Nat.reduceSub Nat.reduceMul Nat.reduceLT Nat.reduceLeDiff Nat.reduceEqDiff Int.reduceBEq Int.reduceBNe Int.reduceNeg Int.reduceSub Int.reduceLE Int.reduceLT
attribute [local go_sem_proc ↓] reduceIte
attribute [local congr] opsP_congr codeP_congr AWP_congr afterR_congr preP_congr afterPre_congr gPre_congr gOps_congr condP_congr
attribute [local go_sem] ty_int ty_bool ty_str ty_u8 ty_ints ty_bytes ty_page ty_pages ty_lpage ty_lpages ty_rec ty_recs ty_lrec ty_lrecs ty_eng ty_leng
attribute [local go_sem] true_and and_true beq_true' beq_false' toNat_cast Int.natCast_nonneg Bool.not_not Bool.not_true Bool.not_false decide_true decide_false Bool.or_false Bool.false_or Bool.or_true Bool.true_or Bool.and_false Bool.false_and Nat.zero_add Int.toNat_of_nonneg wrap_succ wrap_m1 wrap_nat succ_m1 cast0 succ_pos' succ_ne' succ_bne' ge_iff_le gt_iff_lt if_true if_false
section
theorem in_fn (n lo hi : Int) : Fn1 Tryz.prog 76 [I n, I lo, I hi] (Bo (isIn n lo hi)) := by
  refine fn1_of Tryz.func76 rfl rfl ?_
  simp -implicitDefEqProofs only [go_sem, Tryz.f76]
  (repeat' (first | ((with_reducible first | refine gon ?_ ?_ | refine gos ?_ ?_ | refine cdn ?_ ?_ | refine cds ?_ ?_ | refine gpn ?_ ?_ | refine gps ?_ ?_) <;> intro h <;> (try simp only [dt, df, gi, gt] at h) <;> try simp -implicitDefEqProofs only [go_sem, *]) | ((with_reducible refine And.intro ?_ ?_); (· first | omega | (simp only [List.length_take]; omega)); try simp -implicitDefEqProofs only [go_sem, *]) | fail))
  all_goals (refine fin_pu ?_ rfl; simp_all [isIn]; try omega)
theorem l6In_fn (n lo hi : Int) : Fn1 Tryz.prog 63 [I n, I lo, I hi] (Bo (isIn n lo hi)) := by
  refine fn1_of Tryz.func63 rfl rfl ?_
  simp -implicitDefEqProofs only [go_sem, Tryz.f63]
  (repeat' (first | ((with_reducible first | refine gon ?_ ?_ | refine gos ?_ ?_ | refine cdn ?_ ?_ | refine cds ?_ ?_ | refine gpn ?_ ?_ | refine gps ?_ ?_) <;> intro h <;> (try simp only [dt, df, gi, gt] at h) <;> try simp -implicitDefEqProofs only [go_sem, *]) | ((with_reducible refine And.intro ?_ ?_); (· first | omega | (simp only [List.length_take]; omega)); try simp -implicitDefEqProofs only [go_sem, *]) | fail))
  all_goals (refine fin_pu ?_ rfl; simp_all [isIn]; try omega)
theorem isPage_fn (n : Int) : Fn1 Tryz.prog 125 [I n] (Bo (isIn n 0 4)) := by
  refine fn1_of Tryz.func125 rfl rfl ?_
  simp -implicitDefEqProofs only [go_sem, Tryz.f125]
  (repeat' (first | ((with_reducible first | refine gon ?_ ?_ | refine gos ?_ ?_ | refine cdn ?_ ?_ | refine cds ?_ ?_ | refine gpn ?_ ?_ | refine gps ?_ ?_) <;> intro h <;> (try simp only [dt, df, gi, gt] at h) <;> try simp -implicitDefEqProofs only [go_sem, *]) | ((with_reducible refine And.intro ?_ ?_); (· first | omega | (simp only [List.length_take]; omega)); try simp -implicitDefEqProofs only [go_sem, *]) | ((with_reducible refine enter_pu (in_fn _ _ _) ?_ ?_ ?_); (· rfl); (· rfl); try simp -implicitDefEqProofs only [go_sem, *])))
  all_goals (refine fin_pu ?_ rfl; simp_all [isIn]; try omega)
theorem isTx_fn (n : Int) : Fn1 Tryz.prog 124 [I n] (Bo (isIn n 1 3)) := by
  refine fn1_of Tryz.func124 rfl rfl ?_
  simp -implicitDefEqProofs only [go_sem, Tryz.f124]
  (repeat' (first | ((with_reducible first | refine gon ?_ ?_ | refine gos ?_ ?_ | refine cdn ?_ ?_ | refine cds ?_ ?_ | refine gpn ?_ ?_ | refine gps ?_ ?_) <;> intro h <;> (try simp only [dt, df, gi, gt] at h) <;> try simp -implicitDefEqProofs only [go_sem, *]) | ((with_reducible refine And.intro ?_ ?_); (· first | omega | (simp only [List.length_take]; omega)); try simp -implicitDefEqProofs only [go_sem, *]) | ((with_reducible refine enter_pu (in_fn _ _ _) ?_ ?_ ?_); (· rfl); (· rfl); try simp -implicitDefEqProofs only [go_sem, *])))
  all_goals (refine fin_pu ?_ rfl; simp_all [isIn]; try omega)
theorem PageOk_fn (p : Pg) : Fn1 Tryz.prog 110 [pA p] (Bo p.ok) := by
  refine fn1_of Tryz.func110 rfl rfl ?_
  simp -implicitDefEqProofs only [go_sem, Tryz.f110]
  (repeat' (first | ((with_reducible first | refine gon ?_ ?_ | refine gos ?_ ?_ | refine cdn ?_ ?_ | refine cds ?_ ?_ | refine gpn ?_ ?_ | refine gps ?_ ?_) <;> intro h <;> (try simp only [dt, df, gi, gt] at h) <;> try simp -implicitDefEqProofs only [go_sem, *]) | ((with_reducible refine And.intro ?_ ?_); (· first | omega | (simp only [List.length_take]; omega)); try simp -implicitDefEqProofs only [go_sem, *]) | ((with_reducible refine enter_pu (l6In_fn _ _ _) ?_ ?_ ?_); (· rfl); (· rfl); try simp -implicitDefEqProofs only [go_sem, *])))
  all_goals try ((with_reducible refine fin_pu ?_ ?_); (· (simp_all [Pg.ok]) <;> (first | omega | (rw [Bool.eq_iff_iff]; simp; done) | (rw [Bool.eq_iff_iff]; simp; omega) | (split <;> (first | rfl | omega | (simp_all; done))))); (· rfl))
  · refine cp_loop (fun i : Nat => ⟨(pA p :: .ref 0 3 0 0 :: Bo false :: I (i : Int) :: .any :: .any :: .any :: .any :: .any :: .any :: .any :: .any :: .any :: .any :: .any :: .any :: .any :: .any :: .any :: .any :: .any :: .any :: .any :: .any :: .any :: .any :: .any :: .any :: .any :: .any :: .any :: .any :: .any :: .any :: .any :: .any :: .any :: .any :: .any :: .any :: .any :: .any :: .any :: .any :: .any :: .any :: .any :: []), [some ⟨3, [pA p]⟩], []⟩) (fun i => i ≤ p.vals.length ∧ allFrom (fun k => p.good (at' p.vals k)) i p.vals.length = p.ok) (fun i => p.vals.length - i) 0 ?_ ?_ ?_
    · simp_all [Pg.ok]; try omega
    · refine wk_tm ?_
      repeat (first | exact WL.nil | (with_reducible refine WL.any _ _ _ ?_) | (with_reducible refine WL.same _ _ _ ?_) | (refine WL.eq _ _ _ _ rfl ?_))
    · rintro i ⟨hi, hg⟩
      have hb : i < 4611686018427387904 := by simp_all; omega
      simp -implicitDefEqProofs only [go_sem, true_and]
      (repeat' (first | ((with_reducible first | refine gon ?_ ?_ | refine gos ?_ ?_ | refine cdn ?_ ?_ | refine cds ?_ ?_ | refine gpn ?_ ?_ | refine gps ?_ ?_) <;> intro h <;> (try simp only [dt, df, gi, gt] at h) <;> try simp -implicitDefEqProofs only [go_sem, *]) | ((with_reducible refine And.intro ?_ ?_); (· first | omega | (simp only [List.length_take]; omega)); try simp -implicitDefEqProofs only [go_sem, *]) | ((with_reducible refine enter_pu (l6In_fn _ _ _) ?_ ?_ ?_); (· rfl); (· rfl); try simp -implicitDefEqProofs only [go_sem, *])))
      all_goals first | ((with_reducible refine ⟨i + 1, ⟨by omega, ?_⟩, by omega, wk_tm ?_⟩); (· (rw [← hg, allFrom_lt (by omega : i < p.vals.length)]; clear hg; (simp_all [Pg.good]) <;> (first | omega | (rw [Bool.eq_iff_iff]; simp; done) | (rw [Bool.eq_iff_iff]; simp; omega) | (split <;> (first | rfl | omega | (simp_all; done)))))); (· repeat (first | exact WL.nil | (with_reducible refine WL.any _ _ _ ?_) | (with_reducible refine WL.same _ _ _ ?_) | (refine WL.eq _ _ _ _ rfl ?_)))) | ((with_reducible refine fin_pu ?_ ?_); (· first | (rw [← hg, allFrom_lt (by omega : i < p.vals.length)]; clear hg; (simp_all [Pg.good]) <;> (first | omega | (rw [Bool.eq_iff_iff]; simp; done) | (rw [Bool.eq_iff_iff]; simp; omega) | (split <;> (first | rfl | omega | (simp_all; done)))); done) | (rw [← hg, allFrom_ge (by omega : ¬ i < p.vals.length)]; done) | (rw [← hg, allFrom_ge (by omega : ¬ i < p.vals.length)]; clear hg; (simp_all [Pg.good]) <;> (first | omega | (rw [Bool.eq_iff_iff]; simp; done) | (rw [Bool.eq_iff_iff]; simp; omega) | (split <;> (first | rfl | omega | (simp_all; done)))); done)); (· rfl))
theorem l11Good_fn (ps : List Pg) (hb : ps.length < 4611686018427387904) : Fn1 Tryz.prog 61 [pgs ps] (Bo (pgsOk ps)) := by
  refine fn1_of Tryz.func61 rfl rfl ?_
  simp -implicitDefEqProofs only [go_sem, Tryz.f61]
  refine cp_loop (fun i : Nat => ⟨(pgs ps :: .any :: Bo false :: I (i : Int) :: .any :: .any :: .any :: .any :: .any :: .any :: .any :: .any :: .any :: .any :: .any :: .any :: .any :: .any :: .any :: []), [], []⟩) (fun i => i ≤ ps.length ∧ (allFrom (fun k => (at' ps k).ok) i ps.length && decide (ps.length = 5)) = pgsOk ps) (fun i => ps.length - i) 0 ?_ ?_ ?_
  · simp [pgsOk]
  · refine wk_tm ?_
    repeat (first | exact WL.nil | (with_reducible refine WL.any _ _ _ ?_) | (with_reducible refine WL.same _ _ _ ?_) | (refine WL.eq _ _ _ _ rfl ?_))
  · rintro i ⟨hi, hg⟩
    have hb : i < 4611686018427387904 := by omega
    simp -implicitDefEqProofs only [go_sem, true_and]
    (repeat' (first | ((with_reducible first | refine gon ?_ ?_ | refine gos ?_ ?_ | refine cdn ?_ ?_ | refine cds ?_ ?_ | refine gpn ?_ ?_ | refine gps ?_ ?_) <;> intro h <;> (try simp only [dt, df, gi, gt] at h) <;> try simp -implicitDefEqProofs only [go_sem, *]) | ((with_reducible refine And.intro ?_ ?_); (· first | omega | (simp only [List.length_take]; omega)); try simp -implicitDefEqProofs only [go_sem, *]) | ((with_reducible refine enter_pu (PageOk_fn _) ?_ ?_ ?_); (· rfl); (· rfl); try simp -implicitDefEqProofs only [go_sem, *])))
    all_goals first | ((with_reducible refine ⟨i + 1, ⟨by omega, ?_⟩, by omega, wk_tm ?_⟩); (· (rw [← hg, allFrom_lt (by omega : i < ps.length)]; clear hg; (simp_all [true_and]) <;> (first | omega | (rw [Bool.eq_iff_iff]; simp; done) | (rw [Bool.eq_iff_iff]; simp; omega) | (split <;> (first | rfl | omega | (simp_all; done)))))); (· repeat (first | exact WL.nil | (with_reducible refine WL.any _ _ _ ?_) | (with_reducible refine WL.same _ _ _ ?_) | (refine WL.eq _ _ _ _ rfl ?_)))) | ((with_reducible refine fin_pu ?_ ?_); (· first | (rw [← hg, allFrom_lt (by omega : i < ps.length)]; clear hg; (simp_all [true_and]) <;> (first | omega | (rw [Bool.eq_iff_iff]; simp; done) | (rw [Bool.eq_iff_iff]; simp; omega) | (split <;> (first | rfl | omega | (simp_all; done)))); done) | (rw [← hg, allFrom_ge (by omega : ¬ i < ps.length)]; done) | (rw [← hg, allFrom_ge (by omega : ¬ i < ps.length)]; clear hg; (simp_all [true_and]) <;> (first | omega | (rw [Bool.eq_iff_iff]; simp; done) | (rw [Bool.eq_iff_iff]; simp; omega) | (split <;> (first | rfl | omega | (simp_all; done)))); done)); (· rfl))
end
section
theorem l2Of_fn (r : Rc) : Fn1 Tryz.prog 147 [rA r] (Bo r.of) := by
  refine fn1_of Tryz.func147 rfl rfl ?_
  simp -implicitDefEqProofs only [go_sem, Tryz.f147]
  (repeat' (first | ((with_reducible first | refine gon ?_ ?_ | refine gos ?_ ?_ | refine cdn ?_ ?_ | refine cds ?_ ?_ | refine gpn ?_ ?_ | refine gps ?_ ?_) <;> intro h <;> (try simp only [dt, df, gi, gt] at h) <;> try simp -implicitDefEqProofs only [go_sem, *]) | ((with_reducible refine And.intro ?_ ?_); (· first | omega | (simp only [List.length_take]; omega)); try simp -implicitDefEqProofs only [go_sem, *]) | ((with_reducible refine enter_pu (l6In_fn _ _ _) ?_ ?_ ?_); (· rfl); (· rfl); try simp -implicitDefEqProofs only [go_sem, *])))
  all_goals try ((with_reducible refine fin_pu ?_ ?_); (· (simp_all [Rc.of]) <;> (first | omega | (rw [Bool.eq_iff_iff]; simp; done) | (rw [Bool.eq_iff_iff]; simp; omega) | (split <;> (first | rfl | omega | (simp_all; done))))); (· rfl))
theorem RecOk_fn (r : Rc) : Fn1 Tryz.prog 111 [rA r] (Bo r.ok) := by
  refine fn1_of Tryz.func111 rfl rfl ?_
  simp -implicitDefEqProofs only [go_sem, Tryz.f111]
  (repeat' (first | ((with_reducible first | refine gon ?_ ?_ | refine gos ?_ ?_ | refine cdn ?_ ?_ | refine cds ?_ ?_ | refine gpn ?_ ?_ | refine gps ?_ ?_) <;> intro h <;> (try simp only [dt, df, gi, gt] at h) <;> try simp -implicitDefEqProofs only [go_sem, *]) | ((with_reducible refine And.intro ?_ ?_); (· first | omega | (simp only [List.length_take]; omega)); try simp -implicitDefEqProofs only [go_sem, *]) | first | ((with_reducible refine enter_pu (l6In_fn _ _ _) ?_ ?_ ?_); (· rfl); (· rfl); try simp -implicitDefEqProofs only [go_sem, *]) | ((with_reducible refine enter_pu (l2Of_fn r) ?_ ?_ ?_); (· rfl); (· rfl); try simp -implicitDefEqProofs only [go_sem, *])))
  all_goals try ((with_reducible refine fin_pu ?_ ?_); (· (simp_all [Rc.ok]) <;> (first | omega | (rw [Bool.eq_iff_iff]; simp; done) | (rw [Bool.eq_iff_iff]; simp; omega) | (split <;> (first | rfl | omega | (simp_all; done))))); (· rfl))
theorem l2Changes_fn (k : Int) : Fn1 Tryz.prog 112 [I k] (Bo (chg k)) := by
  refine fn1_of Tryz.func112 rfl rfl ?_
  simp -implicitDefEqProofs only [go_sem, Tryz.f112]
  (repeat' (first | ((with_reducible first | refine gon ?_ ?_ | refine gos ?_ ?_ | refine cdn ?_ ?_ | refine cds ?_ ?_ | refine gpn ?_ ?_ | refine gps ?_ ?_) <;> intro h <;> (try simp only [dt, df, gi, gt] at h) <;> try simp -implicitDefEqProofs only [go_sem, *]) | ((with_reducible refine And.intro ?_ ?_); (· first | omega | (simp only [List.length_take]; omega)); try simp -implicitDefEqProofs only [go_sem, *]) | fail))
  all_goals try ((with_reducible refine fin_pu ?_ ?_); (· (simp_all [chg]) <;> (first | omega | (rw [Bool.eq_iff_iff]; simp; done) | (rw [Bool.eq_iff_iff]; simp; omega) | (split <;> (first | rfl | omega | (simp_all; done))))); (· rfl))
theorem l3Last_fn (l : List Rc) (tx : Int) (hb : l.length < 4611686018427387904) : Fn1 Tryz.prog 60 [recs l, I tx] (I (lastN l tx)) := by
  refine fn1_of Tryz.func60 rfl rfl ?_
  simp -implicitDefEqProofs only [go_sem, Tryz.f60, hb]
  refine cp_loop (fun i : Nat => ⟨(recs l :: I tx :: .any :: .any :: I 0 :: I ((i : Int) - 1) :: .any :: .any :: .any :: .any :: .any :: .any :: .any :: .any :: .any :: .any :: .any :: .any :: .any :: .any :: .any :: .any :: .any :: .any :: .any :: .any :: .any :: .any :: .any :: .any :: .any :: .any :: .any :: .any :: .any :: .any :: []), [], []⟩) (fun i => i ≤ l.length ∧ lastTo l tx i = lastN l tx) (fun i => i) l.length ?_ ?_ ?_
  · simp [lastN]
  · refine wk_tm ?_
    repeat (first | exact WL.nil | (with_reducible refine WL.any _ _ _ ?_) | (with_reducible refine WL.same _ _ _ ?_) | (refine WL.eq _ _ _ _ rfl ?_))
  · rintro i ⟨hi, hg⟩
    rcases i with _ | i
    · simp -implicitDefEqProofs only [go_sem, true_and]
      (repeat' (first | ((with_reducible first | refine gon ?_ ?_ | refine gos ?_ ?_ | refine cdn ?_ ?_ | refine cds ?_ ?_ | refine gpn ?_ ?_ | refine gps ?_ ?_) <;> intro h <;> (try simp only [dt, df, gi, gt] at h) <;> try simp -implicitDefEqProofs only [go_sem, *]) | ((with_reducible refine And.intro ?_ ?_); (· first | omega | (simp only [List.length_take]; omega)); try simp -implicitDefEqProofs only [go_sem, *]) | fail))
      all_goals first | ((with_reducible refine ⟨0, ⟨by omega, ?_⟩, by omega, wk_tm ?_⟩); (· (rw [← hg]; clear hg; (simp_all [lastTo]) <;> (first | omega | (rw [Bool.eq_iff_iff]; simp; done) | (rw [Bool.eq_iff_iff]; simp; omega) | (split <;> (first | rfl | omega | (simp_all; done)))))); (· repeat (first | exact WL.nil | (with_reducible refine WL.any _ _ _ ?_) | (with_reducible refine WL.same _ _ _ ?_) | (refine WL.eq _ _ _ _ rfl ?_)))) | ((with_reducible refine fin_pu ?_ ?_); (· (rw [← hg]; first | done | (clear hg; (simp_all [lastTo]) <;> (first | omega | (rw [Bool.eq_iff_iff]; simp; done) | (rw [Bool.eq_iff_iff]; simp; omega) | (split <;> (first | rfl | omega | (simp_all; done))))))); (· rfl))
    · have hb : i < 4611686018427387904 := by omega
      simp -implicitDefEqProofs only [go_sem, true_and]
      (repeat' (first | ((with_reducible first | refine gon ?_ ?_ | refine gos ?_ ?_ | refine cdn ?_ ?_ | refine cds ?_ ?_ | refine gpn ?_ ?_ | refine gps ?_ ?_) <;> intro h <;> (try simp only [dt, df, gi, gt] at h) <;> try simp -implicitDefEqProofs only [go_sem, *]) | ((with_reducible refine And.intro ?_ ?_); (· first | omega | (simp only [List.length_take]; omega)); try simp -implicitDefEqProofs only [go_sem, *]) | fail))
      all_goals first | ((with_reducible refine ⟨i, ⟨by omega, ?_⟩, by omega, wk_tm ?_⟩); (· (rw [← hg]; clear hg; (simp_all [lastTo, Rc.ends]) <;> (first | omega | (rw [Bool.eq_iff_iff]; simp; done) | (rw [Bool.eq_iff_iff]; simp; omega) | (split <;> (first | rfl | omega | (simp_all; done)))))); (· repeat (first | exact WL.nil | (with_reducible refine WL.any _ _ _ ?_) | (with_reducible refine WL.same _ _ _ ?_) | (refine WL.eq _ _ _ _ rfl ?_)))) | ((with_reducible refine fin_pu ?_ ?_); (· (rw [← hg]; first | done | (clear hg; (simp_all [lastTo, Rc.ends]) <;> (first | omega | (rw [Bool.eq_iff_iff]; simp; done) | (rw [Bool.eq_iff_iff]; simp; omega) | (split <;> (first | rfl | omega | (simp_all; done))))))); (· rfl))
end
section
theorem LogOk_fn (l : List Rc) (hb : l.length < 4611686018427387904) : Fn1 Tryz.prog 62 [recs l] (Bo (logOk l)) := by
  refine fn1_of Tryz.func62 rfl rfl ?_
  simp -implicitDefEqProofs only [go_sem, Tryz.f62]
  refine cp_loop (fun i : Nat => ⟨(recs l :: .any :: Bo false :: I (i : Int) :: .any :: .any :: .any :: .any :: .any :: .any :: .any :: .any :: .any :: .any :: .any :: .any :: .any :: .any :: .any :: .any :: .any :: .any :: .any :: .any :: .any :: .any :: .any :: .any :: .any :: .any :: .any :: .any :: .any :: .any :: .any :: .any :: .any :: .any :: .any :: .any :: .any :: .any :: .any :: .any :: .any :: .any :: .any :: .any :: .any :: .any :: .any :: .any :: .any :: .any :: .any :: .any :: .any :: .any :: .any :: .any :: .any :: .any :: .any :: .any :: .any :: .any :: .any :: .any :: .any :: []), [], []⟩) (fun i => i ≤ l.length ∧ (allFrom (stepOk l) i l.length && decide (l.length ≤ 150)) = logOk l) (fun i => l.length - i) 0 ?_ ?_ ?_
  · simp [logOk]
  · refine wk_tm ?_
    repeat (first | exact WL.nil | (with_reducible refine WL.any _ _ _ ?_) | (with_reducible refine WL.same _ _ _ ?_) | (refine WL.eq _ _ _ _ rfl ?_))
  · rintro i ⟨hi, hg⟩
    have hb : i < 4611686018427387904 := by omega
    simp -implicitDefEqProofs only [go_sem, true_and]
    have hlt := lastN_take l (at' l (i : Int)).tx hi
    (repeat' (first | ((with_reducible first | refine gon ?_ ?_ | refine gos ?_ ?_ | refine cdn ?_ ?_ | refine cds ?_ ?_ | refine gpn ?_ ?_ | refine gps ?_ ?_) <;> intro h <;> (try simp only [dt, df, gi, gt] at h) <;> try simp -implicitDefEqProofs only [go_sem, *]) | ((with_reducible refine And.intro ?_ ?_); (· first | omega | (simp only [List.length_take]; omega)); try simp -implicitDefEqProofs only [go_sem, *]) | first | ((with_reducible refine pre_enter _ (det_pu (RecOk_fn _) ?_ ?_) ?_ ?_); (· rfl); (· rfl); (· rfl); try simp -implicitDefEqProofs only [go_sem, *]) | ((with_reducible refine pre_enter _ (det_pu (l3Last_fn _ _ ?_) ?_ ?_) ?_ ?_); (· (first | assumption | omega | (simp; omega))); (· rfl); (· rfl); (· rfl); try simp -implicitDefEqProofs only [go_sem, *]) | ((with_reducible refine cp_draw (id := 4) 32 mixed ?_ ?_ ?_); (· decide +kernel); (· first | (simp only [List.all_cons, List.all_nil, List.length_cons, List.length_nil, Nat.reduceAdd, Nat.reduceLT, decide_true, Bool.and_true, Bool.and_self]; done) | rfl); try simp -implicitDefEqProofs only [go_sem, *]) | ((with_reducible refine cp_draw (id := 6) 24 mixed ?_ ?_ ?_); (· decide +kernel); (· first | (simp only [List.all_cons, List.all_nil, List.length_cons, List.length_nil, Nat.reduceAdd, Nat.reduceLT, decide_true, Bool.and_true, Bool.and_self]; done) | rfl); try simp -implicitDefEqProofs only [go_sem, *]) | ((rw [wrap_ok (n := (at' l (i : Int)).next - 1) (by omega) (by omega)]); try simp -implicitDefEqProofs only [go_sem, *])))
    all_goals first | ((with_reducible refine ⟨i + 1, ⟨by omega, ?_⟩, by omega, wk_tm ?_⟩); (· (rw [← hg, allFrom_lt (by omega : i < l.length)]; clear hg; (simp_all [stepOk]) <;> (first | omega | (rw [Bool.eq_iff_iff]; simp; done) | (rw [Bool.eq_iff_iff]; simp; omega) | (split <;> (first | rfl | omega | (simp_all; done)))))); (· repeat (first | exact WL.nil | (with_reducible refine WL.any _ _ _ ?_) | (with_reducible refine WL.same _ _ _ ?_) | (refine WL.eq _ _ _ _ rfl ?_)))) | ((with_reducible refine fin_pu ?_ ?_); (· first | (rw [← hg, allFrom_lt (by omega : i < l.length)]; clear hg; (simp_all [stepOk]) <;> (first | omega | (rw [Bool.eq_iff_iff]; simp; done) | (rw [Bool.eq_iff_iff]; simp; omega) | (split <;> (first | rfl | omega | (simp_all; done)))); done) | (rw [← hg, allFrom_ge (by omega : ¬ i < l.length)]; done) | (rw [← hg, allFrom_ge (by omega : ¬ i < l.length)]; clear hg; (simp_all [stepOk]) <;> (first | omega | (rw [Bool.eq_iff_iff]; simp; done) | (rw [Bool.eq_iff_iff]; simp; omega) | (split <;> (first | rfl | omega | (simp_all; done)))); done)); (· rfl))
end
end Go.Proofs.YtfcnajhanjhonaaGreat.Am
end
