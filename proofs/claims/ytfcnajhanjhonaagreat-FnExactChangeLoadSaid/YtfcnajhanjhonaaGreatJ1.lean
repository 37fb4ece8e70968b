/- Lemmas and walks: Am1 Am2 Am3 Am4 Am5 Am6 Am7 Am8 Am9 Am10 Am11 Am12 Am13 Am14 Am15 Am16 Am17 Am18 An1 Am19. No conditions. -/
import Derived.Orders
import Derived.Laws.Cells
import Derived.Below
import Derived.Laws.Entries
import Derived.Laws.StructEq
import Derived.Laws.BytesString
import Derived.Great.BuildSlice
import Derived.Laws.MakeOwn
import Derived.Laws.AppendOwn
import Derived.Laws.CopyRow
import Derived.Tactics
section
set_option linter.unusedVariables false
set_option linter.unusedSimpArgs false
namespace Go.Proofs.YtfcnajhanjhonaaGreat.Am
open Go Go.RowKit
section
theorem add_block (ad : Addr) (k : Nat) : (ad.add k).block = ad.block := by unfold Addr.add; split <;> rfl
theorem add_add (ad : Addr) (j k : Nat) (hj : ad.spot = none) : (ad.add j).add k = ad.add (j + k) := by
  obtain ⟨b, o, s⟩ := ad
  simp only at hj
  subst hj
  simp [Addr.add_lit, Nat.add_assoc]
theorem add_zero (ad : Addr) : ad.add 0 = ad := by simp [Addr.add]
inductive D where
  | prim (v : Value)
  | agg (xs : List D)
  | sl (z : Nat) (xs : List D)
instance : Inhabited D := ⟨.prim undef⟩
def D.cells : D → List D
  | .agg xs => xs
  | d => [d]
def D.scalar : D → Bool
  | .agg _ => false
  | _ => true
inductive RepD (w : World) (ok : Nat → Prop) : D → Value → Prop
  | prim (v : Value) (h1 : v.oneCell' = true) : RepD w ok (.prim v) v
  | agg (xs : List D) (vs : List Value) (hl : vs.length = xs.length) (hs : ∀ x ∈ xs, x.scalar = true) (h : ∀ (j : Nat) (x : D) (v : Value), xs[j]? = some x → vs[j]? = some v → RepD w ok x v) : RepD w ok (.agg xs) (.agg vs.toArray)
  | sl (z : Nat) (xs : List D) (n : Nat) (A : Option Addr) (c : Nat) (ad : Addr) (f : Nat → Nat → Value) (hn : n = xs.length) (hc : xs.length ≤ c) (hA : xs ≠ [] → A = some ad ∧ ok ad.block ∧ ad.spot = none) (hz0 : 0 < z)
      (hz : ∀ (i : Nat) (x : D), xs[i]? = some x → x.cells.length = z ∧ ∀ y ∈ x.cells, y.scalar = true)
      (h1 : ∀ (i : Nat) (x : D) (j : Nat) (y : D), xs[i]? = some x → x.cells[j]? = some y → w.cell? (ad.add (i * z + j)) = some (f i j))
      (h2 : ∀ (i : Nat) (x : D) (j : Nat) (y : D), xs[i]? = some x → x.cells[j]? = some y → RepD w ok y (f i j)) : RepD w ok (.sl z xs) (.slice A n c)
theorem RepD.mono {w w' : World} {ok ok' : Nat → Prop} {x : D} {v : Value} (h : RepD w ok x v)
    (hc : ∀ ad u, ok ad.block → w.cell? ad = some u → w'.cell? ad = some u) (hb : ∀ ad u, ok ad.block → w.cell? ad = some u → ok' ad.block) : RepD w' ok' x v := by
  induction h with
  | prim v h1 => exact .prim v h1
  | agg xs vs hl hs h ih => exact .agg xs vs hl hs ih
  | sl z xs n A c ad f hn hcap hA hz0 hz h1 h2 ih =>
    cases xs with
    | nil => exact .sl z [] n A c ad f hn hcap (fun h => absurd rfl h) hz0 hz (fun i x j y hi _ => by simp at hi) (fun i x j y hi _ => by simp at hi)
    | cons x0 xs =>
      obtain ⟨eA, hok, hsp⟩ := hA (by simp)
      obtain ⟨y, hy⟩ : ∃ y, x0.cells[0]? = some y := ⟨_, List.getElem?_eq_getElem (by rw [(hz 0 x0 rfl).1]; exact hz0)⟩
      have := hb (ad.add (0 * z + 0)) _ (by rw [add_block]; exact hok) (h1 0 x0 0 y rfl hy)
      rw [add_block] at this
      exact .sl z _ n A c ad f hn hcap (fun _ => ⟨eA, this, hsp⟩) hz0 hz (fun i x j y hi hj => hc _ _ (by rw [add_block]; exact hok) (h1 i x j y hi hj)) ih
/-- What stands for a scalar is one cell. -/
theorem RepD.one {w : World} {ok : Nat → Prop} {x : D} {v : Value} (h : RepD w ok x v) (hx : x.scalar = true) : v.oneCell' = true := by
  cases h with
  | prim v h1 => exact h1
  | agg => simp [D.scalar] at hx
  | sl => rfl
inductive AV where
  | prim (v : Value)
  | sl (z : Nat) (xs : List D)
  | agg (xs : List AV)
  | tup (xs : List AV)
  | ro (xs : List D)
  | ref (i z k sub : Nat)
  | own (i z off len : Nat)
  | clo (g : FuncId) (caps : List AV)
  | junk
  | any
instance : Inhabited AV := ⟨.any⟩
structure AObj where
  z : Nat
  es : List AV
abbrev Store := List (Option AObj)
/-- The cells of an element of an object: an aggregate's parts, or the scalar itself. -/
def AV.cells : AV → List AV
  | .agg xs => xs
  | a => [a]
def AV.scalar : AV → Bool
  | .agg _ => false
  | .tup _ => false
  | .any => false
  | _ => true
def liveB (S : Store) (μ : Nat → Nat) (b : Nat) : Prop := ∃ (i : Nat) (o : AObj), S[i]? = some (some o) ∧ o.es ≠ [] ∧ μ i = b
inductive Rep (ok : Nat → Prop) (w : World) (μ : Nat → Nat) (S : Store) : AV → Value → Prop
  | prim (v : Value) (h1 : v.oneCell' = true) : Rep ok w μ S (.prim v) v
  | sl (z : Nat) (xs : List D) (v : Value) (h : RepD w (fun b => ok b ∧ ¬ liveB S μ b) (.sl z xs) v) : Rep ok w μ S (.sl z xs) v
  | agg (xs : List AV) (vs : List Value) (hl : vs.length = xs.length) (hs : ∀ x ∈ xs, x.scalar = true) (h : ∀ (j : Nat) (x : AV) (v : Value), xs[j]? = some x → vs[j]? = some v → Rep ok w μ S x v) : Rep ok w μ S (.agg xs) (.agg vs.toArray)
  | tup (xs : List AV) (vs : List Value) (hl : vs.length = xs.length) (h : ∀ (j : Nat) (x : AV) (v : Value), xs[j]? = some x → vs[j]? = some v → Rep ok w μ S x v) : Rep ok w μ S (.tup xs) (.tuple vs.toArray)
  | ro (xs : List D) (ad : Addr) (f : Nat → Value) (hsp : ad.spot = none) (hne : 0 < xs.length) (hb : ok ad.block ∧ ¬ liveB S μ ad.block) (h1 : ∀ (j : Nat) (y : D), xs[j]? = some y → y.scalar = true ∧ w.cell? (ad.add j) = some (f j)) (h2 : ∀ (j : Nat) (y : D), xs[j]? = some y → RepD w (fun b => ok b ∧ ¬ liveB S μ b) y (f j)) : Rep ok w μ S (.ro xs) (.pointer (some ad))
  | ref (i z k sub : Nat) (hi : i < S.length) : Rep ok w μ S (.ref i z k sub) (.pointer (some ⟨μ i, k * z + sub, none⟩))
  | own0 (i z off : Nat) (A : Option Addr) (hi : i < S.length) : Rep ok w μ S (.own i z off 0) (.slice A 0 0)
  | own (i z off len c : Nat) (cs : Array Value) (ty : TypeId) (hi : i < S.length) (h0 : 0 < len) (hc : len ≤ c) (hb : w.heap[μ i]? = some (.cells cs ty (0, 0))) (hsz : (off + c) * z ≤ cs.size) : Rep ok w μ S (.own i z off len) (.slice (some ⟨μ i, off * z, none⟩) len c)
  | clo (g : FuncId) (caps : List AV) (vs : List Value) (hl : vs.length = caps.length) (h : ∀ (j : Nat) (x : AV) (v : Value), caps[j]? = some x → vs[j]? = some v → Rep ok w μ S x v) : Rep ok w μ S (.clo g caps) (.func (.func g) #[] vs.toArray)
  | junk (v : Value) (h1 : v.oneCell' = true) : Rep ok w μ S .junk v
  | any (v : Value) : Rep ok w μ S .any v
/-- What stands for a scalar is one cell. -/
theorem Rep.one {ok : Nat → Prop} {w : World} {μ : Nat → Nat} {S : Store} {x : AV} {v : Value} (h : Rep ok w μ S x v) (hx : x.scalar = true) : v.oneCell' = true := by
  cases h with
  | prim v h1 => exact h1
  | junk v h1 => exact h1
  | sl z xs v h => exact h.one rfl
  | agg => simp [AV.scalar] at hx
  | tup => simp [AV.scalar] at hx
  | any => simp [AV.scalar] at hx
  | _ => rfl
theorem cells_of_one {v : Value} (h : v.oneCell' = true) : v.cells = #[v] := by cases v <;> first | rfl | (simp [Value.oneCell'] at h)
theorem Rep.oneC {ok : Nat → Prop} {w : World} {μ : Nat → Nat} {S : Store} {x : AV} {v : Value} (h : Rep ok w μ S x v) (hx : x.scalar = true) : v.cells = #[v] := cells_of_one (h.one hx)
/-- The objects of a store in a world. -/
structure RelS (ok : Nat → Prop) (w : World) (μ : Nat → Nat) (S : Store) : Prop where
  blk : ∀ (i : Nat) (o : AObj), S[i]? = some (some o) → o.es ≠ [] → ∃ cs ty, w.heap[μ i]? = some (.cells cs ty (0, 0)) ∧ o.es.length * o.z ≤ cs.size ∧
    ∀ (k : Nat) (x : AV) (j : Nat) (y : AV), o.es[k]? = some x → x.cells[j]? = some y → ∃ v, cs[k * o.z + j]? = some v ∧ Rep ok w μ S y v
  siz : ∀ (i : Nat) (o : AObj), S[i]? = some (some o) → 0 < o.z ∧ ∀ x ∈ o.es, x.cells.length = o.z ∧ ∀ y ∈ x.cells, y.scalar = true
  inj : ∀ (i j : Nat) (oi oj : AObj), S[i]? = some (some oi) → S[j]? = some (some oj) → oi.es ≠ [] → oj.es ≠ [] → μ i = μ j → i = j
structure Mod (w0 : World) (L0 : Nat → Prop) (w : World) : Prop where
  os : w.os = w0.os
  tape : w.tape = w0.tape
  output : w.output = w0.output
  size : w0.heap.size ≤ w.heap.size
  keep : ∀ b, b < w0.heap.size → ¬ L0 b → w.heap[b]? = w0.heap[b]?
  shape : ∀ (b : Nat) (cs : Array Value) (ty : TypeId) (fz : Nat × Nat), w0.heap[b]? = some (.cells cs ty fz) → ∃ cs' : Array Value, w.heap[b]? = some (.cells cs' ty fz) ∧ cs'.size = cs.size
theorem Mod.refl (w : World) (L : Nat → Prop) : Mod w L w := ⟨rfl, rfl, rfl, Nat.le_refl _, fun _ _ _ => rfl, fun _ cs _ _ h => ⟨cs, h, rfl⟩⟩
theorem Mod.trans {w0 w1 w2 : World} {L0 L1 : Nat → Prop} (h : Mod w0 L0 w1) (k : Mod w1 L1 w2) (hl : ∀ b, b < w0.heap.size → L1 b → L0 b) : Mod w0 L0 w2 :=
  ⟨k.os.trans h.os, k.tape.trans h.tape, k.output.trans h.output, Nat.le_trans h.size k.size,
   fun b hb hn => (k.keep b (Nat.lt_of_lt_of_le hb h.size) (fun hh => hn (hl b hb hh))).trans (h.keep b hb hn),
   fun b cs ty fz hb => by
     obtain ⟨c1, h1, e1⟩ := h.shape b cs ty fz hb
     obtain ⟨c2, h2, e2⟩ := k.shape b c1 ty fz h1
     exact ⟨c2, h2, e2.trans e1⟩⟩
theorem Mod.cell {w0 w : World} {L0 : Nat → Prop} (h : Mod w0 L0 w) (ad : Addr) (u : Value) (hn : ¬ L0 ad.block) (hc : w0.cell? ad = some u) : w.cell? ad = some u := by
  have hb : ad.block < w0.heap.size := World.block_lt_of_cell? w0 ad hc
  rw [World.cell?_of_block (w := w0) (h.keep _ hb hn)]
  exact hc
/-- From one world and store to another: what values that do not name 'mv' go by. -/
structure Hop (w : World) (μ : Nat → Nat) (S : Store) (w' : World) (μ' : Nat → Nat) (S' : Store) (mv : List Nat) : Prop where
  cell : ∀ ad u, ¬ liveB S μ ad.block → w.cell? ad = some u → w'.cell? ad = some u
  live : ∀ b, b < w.heap.size → liveB S' μ' b → liveB S μ b
  len : S.length ≤ S'.length
  mu : ∀ i, i < S.length → mv.contains i = false → μ' i = μ i
  shape : ∀ (b : Nat) (cs : Array Value) (ty : TypeId) (fz : Nat × Nat), w.heap[b]? = some (.cells cs ty fz) → ∃ cs' : Array Value, w'.heap[b]? = some (.cells cs' ty fz) ∧ cs'.size = cs.size
/-- Does a value name one of the objects 'mv'? -/
inductive AV.clean (mv : List Nat) : AV → Prop
  | prim (v) : AV.clean mv (.prim v)
  | sl (z xs) : AV.clean mv (.sl z xs)
  | agg (xs : List AV) (h : ∀ x ∈ xs, AV.clean mv x) : AV.clean mv (.agg xs)
  | tup (xs : List AV) (h : ∀ x ∈ xs, AV.clean mv x) : AV.clean mv (.tup xs)
  | ro (xs) : AV.clean mv (.ro xs)
  | ref (i z k sub) (h : mv.contains i = false) : AV.clean mv (.ref i z k sub)
  | own (i z off len) (h : mv.contains i = false) : AV.clean mv (.own i z off len)
  | clo (g) (caps : List AV) (h : ∀ x ∈ caps, AV.clean mv x) : AV.clean mv (.clo g caps)
  | junk : AV.clean mv .junk
  | any : AV.clean mv .any
theorem Rep.hop {ok : Nat → Prop} {w w' : World} {μ μ' : Nat → Nat} {S S' : Store} {mv : List Nat} (hh : Hop w μ S w' μ' S' mv) {x : AV} {v : Value} (h : Rep ok w μ S x v) (hx : x.clean mv) : Rep ok w' μ' S' x v := by
  have hd : ∀ {d : D} {u : Value}, RepD w (fun b => ok b ∧ ¬ liveB S μ b) d u → RepD w' (fun b => ok b ∧ ¬ liveB S' μ' b) d u := fun h =>
    h.mono (fun ad u hl hc => hh.cell ad u hl.2 hc) (fun ad u hl hc => ⟨hl.1, fun hl' => hl.2 (hh.live _ (World.block_lt_of_cell? w ad hc) hl')⟩)
  induction h with
  | prim v h1 => exact .prim v h1
  | sl z xs v h => exact .sl z xs v (hd h)
  | agg xs vs hl hs h ih => cases hx with | agg _ hx => exact .agg xs vs hl hs fun j x v hj hv => ih j x v hj hv (hx x (List.mem_of_getElem? hj))
  | tup xs vs hl h ih => cases hx with | tup _ hx => exact .tup xs vs hl fun j x v hj hv => ih j x v hj hv (hx x (List.mem_of_getElem? hj))
  | ro xs ad f hsp hne hb h1 h2 =>
    obtain ⟨y, hy⟩ : ∃ y, xs[0]? = some y := ⟨_, List.getElem?_eq_getElem hne⟩
    have hlt := World.block_lt_of_cell? w _ (h1 0 y hy).2
    rw [add_block] at hlt
    exact .ro xs ad f hsp hne ⟨hb.1, fun hl' => hb.2 (hh.live _ hlt hl')⟩ (fun j y hj => ⟨(h1 j y hj).1, hh.cell _ _ (by rw [add_block]; exact hb.2) (h1 j y hj).2⟩) (fun j y hj => hd (h2 j y hj))
  | ref i z k sub hi => cases hx with | ref _ _ _ _ hm => rw [← hh.mu i hi hm]; exact .ref i z k sub (Nat.lt_of_lt_of_le hi hh.len)
  | own0 i z off A hi => exact .own0 i z off A (Nat.lt_of_lt_of_le hi hh.len)
  | own i z off len c cs ty hi h0 hc hb hsz =>
    cases hx with
    | own _ _ _ _ hm =>
      obtain ⟨cs', hb', es⟩ := hh.shape _ _ _ _ hb
      rw [← hh.mu i hi hm]
      exact .own i z off len c cs' ty (Nat.lt_of_lt_of_le hi hh.len) h0 hc (by rw [hh.mu i hi hm]; exact hb') (by rw [es]; exact hsz)
  | clo g caps vs hl h ih => cases hx with | clo _ _ hx => exact .clo g caps vs hl fun j x v hj hv => ih j x v hj hv (hx x (List.mem_of_getElem? hj))
  | junk v h1 => exact .junk v h1
  | any v => exact .any v
theorem AV.clean_nil (x : AV) : x.clean [] := by
  have key : ∀ n (x : AV), SizeOf.sizeOf x ≤ n → x.clean [] := by
    intro n
    induction n with
    | zero => intro x hx; cases x <;> simp at hx
    | succ n ih =>
      intro x hx
      cases x with
      | agg xs => exact .agg _ fun y hy => ih y (by have := List.sizeOf_lt_of_mem hy; simp at hx; omega)
      | tup xs => exact .tup _ fun y hy => ih y (by have := List.sizeOf_lt_of_mem hy; simp at hx; omega)
      | clo g xs => exact .clo _ _ fun y hy => ih y (by have := List.sizeOf_lt_of_mem hy; simp at hx; omega)
      | prim v => exact .prim v
      | sl z xs => exact .sl z xs
      | ro xs => exact .ro xs
      | ref => exact .ref _ _ _ _ rfl
      | own => exact .own _ _ _ _ rfl
      | junk => exact .junk
      | any => exact .any
  exact key _ x (Nat.le_refl _)
/-- Does a scalar name one of the objects 'mv'? (A function value within a function value: yes.) -/
def AV.m0 (mv : List Nat) : AV → Bool
  | .prim _ => false
  | .sl _ _ => false
  | .ro _ => false
  | .junk => false
  | .ref i _ _ _ => mv.contains i
  | .own i _ _ _ => mv.contains i
  | _ => true
/-- A value with what names the objects 'mv' struck: a scalar, an aggregate, a tuple. -/
def AV.sc0 (mv : List Nat) : AV → AV
  | .ref i z k sub => if mv.contains i then .junk else .ref i z k sub
  | .own i z off len => if mv.contains i then .junk else .own i z off len
  | .clo g caps => if caps.any (AV.m0 mv) then .junk else .clo g caps
  | x => x
def AV.sc1 (mv : List Nat) : AV → AV
  | .agg xs => .agg (xs.map (AV.sc0 mv))
  | .tup _ => .any
  | x => x.sc0 mv
def AV.sc (mv : List Nat) : AV → AV
  | .tup xs => .tup (xs.map (AV.sc1 mv))
  | x => x.sc1 mv
theorem AV.clean_of_m0 {mv : List Nat} {x : AV} (h : x.m0 mv = false) : x.clean mv := by
  cases x <;> simp only [AV.m0] at h <;> first | (exact Bool.noConfusion h) | (constructor; done) | (constructor; assumption)
section
variable {ok : Nat → Prop} {w w' : World} {μ μ' : Nat → Nat} {S S' : Store} {mv : List Nat} (hh : Hop w μ S w' μ' S' mv) {x : AV} {v : Value}
include hh
theorem Rep.sc0 (h : Rep ok w μ S x v) (hs : x.scalar = true) : Rep ok w' μ' S' (x.sc0 mv) v ∧ (x.sc0 mv).scalar = true := by
  have h1 := h.one hs
  cases x with
  | ref i z k sub =>
    simp only [AV.sc0]
    split
    · exact ⟨.junk v h1, rfl⟩
    · rename_i hm; exact ⟨h.hop hh (.ref _ _ _ _ (by simpa using hm)), rfl⟩
  | own i z off len =>
    simp only [AV.sc0]
    split
    · exact ⟨.junk v h1, rfl⟩
    · rename_i hm; exact ⟨h.hop hh (.own _ _ _ _ (by simpa using hm)), rfl⟩
  | clo g caps =>
    simp only [AV.sc0]
    split
    · exact ⟨.junk v h1, rfl⟩
    · rename_i hm
      exact ⟨h.hop hh (.clo _ _ fun y hy => AV.clean_of_m0 (by simp only [Bool.not_eq_true, List.any_eq_false] at hm; simpa using hm y hy)), rfl⟩
  | agg => simp [AV.scalar] at hs
  | tup => simp [AV.scalar] at hs
  | any => simp [AV.scalar] at hs
  | prim => exact ⟨h.hop hh (.prim _), rfl⟩
  | sl => exact ⟨h.hop hh (.sl _ _), rfl⟩
  | ro => exact ⟨h.hop hh (.ro _), rfl⟩
  | junk => exact ⟨h.hop hh .junk, rfl⟩
theorem Rep.sc1 (h : Rep ok w μ S x v) : Rep ok w' μ' S' (x.sc1 mv) v := by
  cases x with
  | agg xs =>
    cases h with
    | agg _ vs hl hs h =>
      refine .agg _ vs (by simpa using hl) ?_ ?_
      · intro y hy
        obtain ⟨x, hx, rfl⟩ := List.mem_map.1 hy
        obtain ⟨j, hj, rfl⟩ := List.mem_iff_getElem.1 hx
        exact (Rep.sc0 hh (h j _ (vs[j]'(by omega)) (List.getElem?_eq_getElem hj) (List.getElem?_eq_getElem (by omega))) (hs _ hx)).2
      · intro j x u hj hv
        rw [List.getElem?_map] at hj
        obtain ⟨y, hy, rfl⟩ := Option.map_eq_some_iff.1 hj
        exact (Rep.sc0 hh (h j y u hy hv) (hs y (List.mem_of_getElem? hy))).1
  | tup => exact .any v
  | any => exact .any v
  | _ => exact (Rep.sc0 hh h rfl).1
theorem Rep.sc (h : Rep ok w μ S x v) : Rep ok w' μ' S' (x.sc mv) v := by
  cases x with
  | tup xs =>
    cases h with
    | tup _ vs hl h =>
      refine .tup _ vs (by simpa using hl) fun j x u hj hv => ?_
      rw [List.getElem?_map] at hj
      obtain ⟨y, hy, rfl⟩ := Option.map_eq_some_iff.1 hj
      exact Rep.sc1 hh (h j y u hy hv)
  | _ => exact Rep.sc1 hh h
end
/-- A state: temporaries, objects, and which of the caller's objects moved. -/
structure St where
  tm : List AV
  S : Store
  mv : List Nat
structure RelT (ok : Nat → Prop) (w0 : World) (μ0 : Nat → Nat) (S0 : Store) (st : St) (μ : Nat → Nat) (a : Act) (w : World) : Prop where
  rs : RelS ok w μ st.S
  fr : ∀ b, w0.heap.size ≤ b → ok b
  df : a.defers = []
  sz : a.tmps.size = st.tm.length
  tm : ∀ (t : Nat) (x : AV), st.tm[t]? = some x → Rep ok w μ st.S x (a.tmps.getD t undef)
  md : Mod w0 (liveB S0 μ0) w
  lv : ∀ b, b < w0.heap.size → liveB st.S μ b → liveB S0 μ0 b
  ln : S0.length ≤ st.S.length
  mu : ∀ i, i < S0.length → st.mv.contains i = false → μ i = μ0 i
end
section
inductive Sh where
  | other
  | struct (offs : List Nat)
  | bool
  | int (k : IntKind)
  | str
  | slice (e : TypeId)
  | array (n : Nat) (e : TypeId)
structure TI where
  agg : Bool
  zs : List Value
  bytes : Nat
  sh : Sh
def oneV (v : Value) : Bool := v.oneCell'
def shOf (P : Program) : TypeDesc → Option Sh
  | .struct fs => if fs.toList.all (fun f => match P.info? f.type with | some i => decide (i.size = 1) | none => false) then some (.struct (fs.toList.map (·.offset))) else none
  | .slice e => some (.slice e)
  | .array n e => some (.array n e)
  | .bool => some .bool
  | .int k => some (.int k)
  | .string => some .str
  | _ => some .other
def aggD : TypeDesc → Bool
  | .struct _ => true
  | .array _ _ => true
  | _ => false
def isIntV : Value → Bool
  | .int .i64 _ => true
  | _ => false
def isStD : TypeDesc → Bool
  | .struct _ => true
  | _ => false
/-- Can values of a struct of numbers be compared without more? -/
def eqT (P : Program) (t : TypeId) (d : TypeDesc) : Bool := match d with
  | .struct fs => !(P.eqGuardType P.depth t) && !(P.stoodInHeld t) && fs.toList.all (fun f => f.name != "_" && (match P.underlying f.type with | some (.int _) => true | _ => false)) && decide (fs.toList.map (·.offset) = List.range fs.size) && (match P.info? t with | some i => decide (i.size = fs.size) | none => false)
  | _ => false
/-- What the machine goes by of a type, read off the program. -/
def tiOf (P : Program) (t : TypeId) : Option TI :=
  match P.info? t, P.underlying t with
  | some i, some d =>
    match i.zero, shOf P d with
    | some zv, some sh =>
      match zv with
      | .agg cs => if aggD d = true ∧ i.size = cs.size ∧ 0 < i.size ∧ cs.all oneV = true ∧ (!(cs.all isIntV) || !(isStD d) || eqT P t d) = true then some ⟨true, cs.toList, i.bytes, sh⟩ else none
      | v => if aggD d = false ∧ i.size = 1 ∧ oneV v = true then some ⟨false, [v], i.bytes, sh⟩ else none
    | _, _ => none
  | _, _ => none
def zval (ti : TI) : Value := if ti.agg then .agg ti.zs.toArray else ti.zs.headD undef
theorem ti_spec {P : Program} {t : TypeId} {ti : TI} (h : tiOf P t = some ti) :
    ∃ i d, P.info? t = some i ∧ P.underlying t = some d ∧ i.zero = some (zval ti) ∧ i.size = ti.zs.length ∧ 0 < ti.zs.length ∧ aggD d = ti.agg ∧ shOf P d = some ti.sh ∧ i.bytes = ti.bytes ∧ (∀ v ∈ ti.zs, v.oneCell' = true) ∧ (ti.agg = false → ti.zs.length = 1) := by
  unfold tiOf at h
  split at h
  · rename_i i d hi hd
    split at h
    · rename_i zv sh hz hs
      split at h
      · rename_i cs
        split at h
        · rename_i hc
          cases h
          refine ⟨i, d, hi, hd, by simp [zval, hz], by simp [hc.2.1], by simp; omega, hc.1, hs, rfl, ?_, by simp⟩
          intro v hv
          have := hc.2.2.2.1
          rw [Array.all_eq_true_iff_forall_mem] at this
          exact this v (by simpa using hv)
        · cases h
      · split at h
        · rename_i hc
          cases h
          exact ⟨i, d, hi, hd, by simp [zval, hz], by simp [hc.2.1], by simp, hc.1, hs, rfl, by simpa [oneV] using hc.2.2, by simp⟩
        · cases h
    · cases h
  · cases h
theorem ti_eqT {P : Program} {t : TypeId} {ti : TI} (h : tiOf P t = some ti) (ha : ti.agg = true) (hz : ti.zs.all isIntV = true) {fs : Array Field} (hd : P.underlying t = some (.struct fs)) : eqT P t (.struct fs) = true := by
  unfold tiOf at h
  rw [hd] at h
  split at h
  · rename_i i d hi hd'
    cases hd'
    split at h
    · rename_i zv sh hz' hs
      split at h
      · rename_i cs
        split at h
        · rename_i hc
          cases h
          have := hc.2.2.2.2
          have h2 : cs.all isIntV = true := by
            rw [Array.all_eq_true_iff_forall_mem]
            rw [List.all_eq_true] at hz
            exact fun v hv => hz v (by simpa using hv)
          rw [h2] at this
          simpa [isStD] using this
        · cases h
      · split at h
        · cases h; cases ha
        · cases h
    · cases h
  · cases h
section
variable {P : Program} {t : TypeId} {ti : TI} (w : World)
theorem run_typeInfo {i : TypeInfo} (h : P.info? t = some i) : (typeInfo t).run P w = .ok i w := by simp [typeInfo, h]
theorem run_underlying {d : TypeDesc} (h : P.underlying t = some d) : (underlying t).run P w = .ok d w := by simp [underlying, h]
theorem run_sizeOf (h : tiOf P t = some ti) : (Go.sizeOf t).run P w = .ok ti.zs.length w := by
  obtain ⟨i, d, hi, hd, hz, hs, _⟩ := ti_spec h
  simp [Go.sizeOf, run_typeInfo w hi, hs]
theorem run_zeroValue (h : tiOf P t = some ti) : (zeroValue t).run P w = .ok (zval ti) w := by
  obtain ⟨i, d, hi, hd, hz, hs, _⟩ := ti_spec h
  simp [zeroValue, run_typeInfo w hi, hz]
theorem run_isAgg (h : tiOf P t = some ti) : (isAgg t).run P w = .ok ti.agg w := by
  obtain ⟨i, d, hi, hd, hz, hs, h0, ha, _⟩ := ti_spec h
  rw [← ha]
  simp only [isAgg, Sem.run_bind, run_underlying w hd, Result.andThen_ok]
  cases d <;> rfl
theorem zval_cells (h : tiOf P t = some ti) : (zval ti).cells = ti.zs.toArray := by
  obtain ⟨i, d, hi, hd, hz, hs, h0, ha, hsh, hb, hone, h1⟩ := ti_spec h
  unfold zval
  cases hag : ti.agg with
  | true => simp [Value.cells]
  | false =>
    have hl := h1 hag
    obtain ⟨v, hv⟩ : ∃ v, ti.zs = [v] := by
      cases hzz : ti.zs with
      | nil => simp [hzz] at hl
      | cons v r => cases r with
        | nil => exact ⟨v, rfl⟩
        | cons => simp [hzz] at hl
    simp only [hv, List.headD_cons]
    simpa using cells_of_one (hone v (by simp [hv]))
end
/-- A type's zero value, for the machine. -/
def TI.zav (ti : TI) : AV := if ti.agg then .agg (ti.zs.map .prim) else .prim (ti.zs.headD undef)
def ev (tm : List AV) : Operand → AV
  | .tmp t => tm.getD t .any
  | .const v => match v with | .agg _ => .any | .tuple _ => .any | v => .prim v
  | .global _ => .any
  | .func f => .clo f []
def D.av0 : D → AV
  | .prim v => .prim v
  | .sl z xs => .sl z xs
  | .agg _ => .any
def D.av : D → AV
  | .agg xs => .agg (xs.map D.av0)
  | d => d.av0
theorem ev_sound {ok : Nat → Prop} {w0 : World} {μ0 : Nat → Nat} {S0 : Store} {st : St} {μ : Nat → Nat} {a : Act} {w : World} (h : RelT ok w0 μ0 S0 st μ a w) (x : Operand) : Rep ok w μ st.S (ev st.tm x) (a.eval x) := by
  cases x with
  | tmp t =>
    simp only [ev, Act.eval]
    cases ht : st.tm[t]? with
    | none => simp [List.getD, ht]; exact .any _
    | some x => simpa [List.getD, ht] using h.tm t x ht
  | const v =>
    simp only [ev, Act.eval]
    cases v <;> first | exact .any _ | exact .prim _ rfl
  | global g => exact .any _
  | func f => exact .clo f [] [] rfl (fun j x v hj _ => by simp at hj)
theorem RepD.av {ok : Nat → Prop} {w : World} {μ : Nat → Nat} {S : Store} {d : D} {v : Value} (hs : d.scalar = true) (h : RepD w (fun b => ok b ∧ ¬ liveB S μ b) d v) : Rep ok w μ S d.av0 v ∧ d.av0.scalar = true := by
  cases d with
  | prim u => cases h with | prim _ h1 => exact ⟨.prim _ h1, rfl⟩
  | sl z xs => exact ⟨.sl z xs v h, rfl⟩
  | agg xs => simp [D.scalar] at hs
end
section
def St.put (st : St) (d : Option Tmp) (v : AV) : St := match d with | some t => { st with tm := st.tm.set t v } | none => st
def AV.sd0 (mv : List Nat) (x : AV) : AV := match mv with | [] => x | _ => x.sc0 mv
def AV.sd1 (mv : List Nat) (x : AV) : AV := match mv with | [] => x | _ => x.sc1 mv
def scS (mv : List Nat) (S : Store) : Store := match mv with | [] => S | _ => S.map (Option.map fun o => ⟨o.z, o.es.map (AV.sc1 mv)⟩)
theorem scS_eq (mv : List Nat) (S : Store) : scS mv S = S.map (Option.map fun o => ⟨o.z, o.es.map (AV.sd1 mv)⟩) := by
  cases mv with
  | nil =>
    have e : (Option.map fun o : AObj => (⟨o.z, o.es.map (AV.sd1 [])⟩ : AObj)) = id := by
      funext x
      cases x with
      | none => rfl
      | some o =>
        have : o.es.map (AV.sd1 []) = o.es := by
          have : (AV.sd1 []) = id := rfl
          rw [this, List.map_id]
        simp [this]
    rw [e, List.map_id]; rfl
  | cons m ms => rfl
def scT (mv : List Nat) (tm : List AV) : List AV := match mv with | [] => tm | _ => tm.map (AV.sc mv)
theorem AV.agg_or (x : AV) : (∃ xs, x = .agg xs) ∨ x.cells = [x] := by cases x <;> first | exact .inl ⟨_, rfl⟩ | exact .inr rfl
theorem AV.sc0_cells (mv : List Nat) {x : AV} (h : x.scalar = true) : (x.sc0 mv).scalar = true ∧ (x.sc0 mv).cells = [x.sc0 mv] ∧ x.sc1 mv = x.sc0 mv := by
  cases x with
  | agg => simp [AV.scalar] at h
  | tup => simp [AV.scalar] at h
  | any => simp [AV.scalar] at h
  | ref i z k sub => simp only [AV.sc0, AV.sc1]; split <;> refine ⟨?_, ?_, ?_⟩ <;> first | rfl | trivial
  | own i z off len => simp only [AV.sc0, AV.sc1]; split <;> refine ⟨?_, ?_, ?_⟩ <;> first | rfl | trivial
  | clo g caps => simp only [AV.sc0, AV.sc1]; split <;> refine ⟨?_, ?_, ?_⟩ <;> first | rfl | trivial
  | _ => exact ⟨rfl, rfl, rfl⟩
theorem AV.sd0_cells (mv : List Nat) {x : AV} (h : x.scalar = true) : (x.sd0 mv).scalar = true ∧ (x.sd0 mv).cells = [x.sd0 mv] ∧ x.sd1 mv = x.sd0 mv := by
  cases mv with
  | nil =>
    refine ⟨h, ?_, rfl⟩
    rcases AV.agg_or x with ⟨xs, rfl⟩ | hc
    · simp [AV.scalar] at h
    · exact hc
  | cons m ms => exact AV.sc0_cells (m :: ms) h
theorem AV.sd1_agg (mv : List Nat) (xs : List AV) : (AV.agg xs).sd1 mv = .agg (xs.map (AV.sd0 mv)) := by
  cases mv with
  | nil =>
    have : (AV.sd0 []) = id := rfl
    rw [this, List.map_id]; rfl
  | cons m ms => rfl
theorem Rep.sd0 {ok : Nat → Prop} {w w' : World} {μ μ' : Nat → Nat} {S S' : Store} {mv : List Nat} (hh : Hop w μ S w' μ' S' mv) {x : AV} {v : Value} (h : Rep ok w μ S x v) (hs : x.scalar = true) : Rep ok w' μ' S' (x.sd0 mv) v ∧ (x.sd0 mv).scalar = true := by
  cases mv with
  | nil => exact ⟨h.hop hh (AV.clean_nil x), hs⟩
  | cons m ms => exact Rep.sc0 hh h hs
section
variable {P : Program} {ok : Nat → Prop} {w0 : World} {μ0 : Nat → Nat} {S0 : Store} {st : St} {μ : Nat → Nat} {a : Act} {w : World}
theorem RelT.put (h : RelT ok w0 μ0 S0 st μ a w) (d : Option Tmp) {v : AV} {u : Value} (hv : Rep ok w μ st.S v u) : RelT ok w0 μ0 S0 (st.put d v) μ (a.put d u) w := by
  cases d with
  | none => exact h
  | some t =>
    refine ⟨h.rs, h.fr, h.df, by simp [St.put, Act.put, h.sz], ?_, h.md, h.lv, h.ln, h.mu⟩
    intro j x hj
    simp only [St.put] at hj ⊢
    simp only [Act.put]
    rw [List.getElem?_set] at hj
    by_cases hjt : t = j
    · subst hjt
      simp only [if_true] at hj
      split at hj
      · rename_i hlt
        cases hj
        have : t < a.tmps.size := by rw [h.sz]; exact hlt
        simpa [this] using hv
      · cases hj
    · rw [if_neg hjt] at hj
      have := h.tm j x hj
      simpa [Array.getElem?_setIfInBounds_ne hjt] using this
/-- On to another world and store. -/
theorem RelT.hop (h : RelT ok w0 μ0 S0 st μ a w) {w' : World} {μ' : Nat → Nat} {S' : Store} (mv : List Nat) (rs : RelS ok w' μ' S') (md : Mod w (liveB st.S μ) w')
    (lv : ∀ b, b < w.heap.size → liveB S' μ' b → liveB st.S μ b) (ln : st.S.length ≤ S'.length) (mu : ∀ i, i < st.S.length → mv.contains i = false → μ' i = μ i) :
    RelT ok w0 μ0 S0 ⟨scT mv st.tm, S', mv ++ st.mv⟩ μ' a w' := by
  have hh : Hop w μ st.S w' μ' S' mv := ⟨fun ad u hn hc => md.cell ad u hn hc, lv, ln, mu, md.shape⟩
  refine ⟨rs, h.fr, h.df, ?_, ?_, h.md.trans md (fun b hb hl => h.lv b hb hl), fun b hb hl => h.lv b hb (lv b (Nat.lt_of_lt_of_le hb h.md.size) hl), Nat.le_trans h.ln ln, ?_⟩
  · rw [h.sz]; unfold scT; cases mv <;> simp
  · intro t x ht
    cases mv with
    | nil => exact (h.tm t x ht).hop hh (AV.clean_nil x)
    | cons m ms =>
      simp only [scT, List.getElem?_map] at ht
      obtain ⟨y, hy, rfl⟩ := Option.map_eq_some_iff.1 ht
      exact (h.tm t y hy).sc hh
  · intro i hi hm
    have h1 : mv.contains i = false := by
      cases hc : mv.contains i with
      | false => rfl
      | true => simp at hc hm; exact absurd hc hm.1
    have h2 : st.mv.contains i = false := by
      cases hc : st.mv.contains i with
      | false => rfl
      | true => simp at hc hm; exact absurd hc hm.2
    rw [mu i (Nat.lt_of_lt_of_le hi h.ln) h1, h.mu i hi h2]
theorem RelS.block_lt (rs : RelS ok w μ st.S) {b : Nat} (h : liveB st.S μ b) : b < w.heap.size := by
  obtain ⟨i, o, hi, hne, rfl⟩ := h
  obtain ⟨cs, ty, hb, _⟩ := rs.blk i o hi hne
  exact (Array.getElem?_eq_some_iff.1 hb).1
/-- A new object in a new block (or, if it has no elements, in none). -/
theorem RelT.new (h : RelT ok w0 μ0 S0 st μ a w) (ob : AObj) {w' : World} (md : Mod w (fun _ => False) w')
    (hz : 0 < ob.z) (hsiz : ∀ x ∈ ob.es, x.cells.length = ob.z ∧ ∀ y ∈ x.cells, y.scalar = true)
    (hb : ob.es ≠ [] → ∃ cs ty, w'.heap[w.heap.size]? = some (.cells cs ty (0, 0)) ∧ ob.es.length * ob.z ≤ cs.size ∧
      ∀ (k : Nat) (x : AV) (j : Nat) (y : AV), ob.es[k]? = some x → x.cells[j]? = some y → ∃ v, cs[k * ob.z + j]? = some v ∧ Rep ok w μ st.S y v) :
    RelT ok w0 μ0 S0 { st with S := st.S ++ [some ob] } (fun i => if i = st.S.length then w.heap.size else μ i) a w' := by
  have hlt : ∀ i, i < st.S.length → (st.S ++ [some ob])[i]? = st.S[i]? := fun i hi => List.getElem?_append_left hi
  have hsome : ∀ (i : Nat) (o : AObj), (st.S ++ [some ob])[i]? = some (some o) → (i < st.S.length ∧ st.S[i]? = some (some o)) ∨ (i = st.S.length ∧ o = ob) := by
    intro i o hi
    rw [List.getElem?_append] at hi
    split at hi
    · rename_i hl; exact .inl ⟨hl, hi⟩
    · rename_i hl
      right
      cases hd : i - st.S.length with
      | zero => rw [hd] at hi; simp at hi; exact ⟨by omega, hi.symm⟩
      | succ d => rw [hd] at hi; simp at hi
  have lv : ∀ b, b < w.heap.size → liveB (st.S ++ [some ob]) (fun i => if i = st.S.length then w.heap.size else μ i) b → liveB st.S μ b := by
    rintro b hbl ⟨i, o, hi, hne, rfl⟩
    rcases hsome i o hi with ⟨hl, hi'⟩ | ⟨rfl, rfl⟩
    · refine ⟨i, o, hi', hne, ?_⟩
      simp [Nat.ne_of_lt hl]
    · exact absurd (show w.heap.size < w.heap.size by simp at hbl) (Nat.lt_irrefl _)
  have md' : Mod w (liveB st.S μ) w' := ⟨md.os, md.tape, md.output, md.size, fun b hb _ => md.keep b hb id, md.shape⟩
  have hh : Hop w μ st.S w' (fun i => if i = st.S.length then w.heap.size else μ i) (st.S ++ [some ob]) [] :=
    ⟨fun ad u hn hc => md'.cell ad u hn hc, lv, by simp, fun i hi _ => by simp [Nat.ne_of_lt hi], md'.shape⟩
  have rs : RelS ok w' (fun i => if i = st.S.length then w.heap.size else μ i) (st.S ++ [some ob]) := by
    refine ⟨?_, ?_, ?_⟩
    · intro i o hi hne
      rcases hsome i o hi with ⟨hl, hi'⟩ | ⟨rfl, rfl⟩
      · obtain ⟨cs, ty, hb, hs, hc⟩ := h.rs.blk i o hi' hne
        refine ⟨cs, ty, ?_, hs, fun k x j y hk hj => ?_⟩
        · simp only [Nat.ne_of_lt hl, if_false]
          rw [md.keep _ (Array.getElem?_eq_some_iff.1 hb).1 id]
          exact hb
        · obtain ⟨v, hv, hr⟩ := hc k x j y hk hj
          exact ⟨v, hv, hr.hop hh (AV.clean_nil y)⟩
      · obtain ⟨cs, ty, hb', hs, hc⟩ := hb hne
        refine ⟨cs, ty, by simpa using hb', hs, fun k x j y hk hj => ?_⟩
        obtain ⟨v, hv, hr⟩ := hc k x j y hk hj
        exact ⟨v, hv, hr.hop hh (AV.clean_nil y)⟩
    · intro i o hi
      rcases hsome i o hi with ⟨hl, hi'⟩ | ⟨rfl, rfl⟩
      · exact h.rs.siz i o hi'
      · exact ⟨hz, hsiz⟩
    · intro i j oi oj hi hj hni hnj e
      rcases hsome i oi hi with ⟨hl, hi'⟩ | ⟨rfl, rfl⟩ <;> rcases hsome j oj hj with ⟨hl', hj'⟩ | ⟨rfl, rfl⟩
      · simp only [Nat.ne_of_lt hl, Nat.ne_of_lt hl', if_false] at e
        exact h.rs.inj i j oi oj hi' hj' hni hnj e
      · have := h.rs.block_lt ⟨i, oi, hi', hni, rfl⟩
        simp only [Nat.ne_of_lt hl, if_false, if_true] at e
        omega
      · have := h.rs.block_lt ⟨j, oj, hj', hnj, rfl⟩
        simp only [Nat.ne_of_lt hl', if_false, if_true] at e
        omega
      · rfl
  have := h.hop [] rs md' lv (by simp) (fun i hi _ => by simp [Nat.ne_of_lt hi])
  simpa [scT] using this
/-- An object turned: its elements are others now, in its own block ('b' is μ i) or in a new one. What named it is struck, if it is said to have moved. -/
theorem RelT.turn (h : RelT ok w0 μ0 S0 st μ a w) (i : Nat) (o ob : AObj) (hi : st.S[i]? = some (some o)) (mv : List Nat) (hmv : mv = [] ∨ mv = [i]) {w' : World} (b : Nat)
    (md : Mod w (fun b => o.es ≠ [] ∧ b = μ i) w') (hb : (mv = [] → b = μ i) ∧ ((o.es ≠ [] ∧ b = μ i) ∨ w.heap.size ≤ b))
    (hz : 0 < ob.z) (hsiz : ∀ x ∈ ob.es, x.cells.length = ob.z ∧ ∀ y ∈ x.cells, y.scalar = true)
    (hcell : ob.es ≠ [] → ∃ cs ty, w'.heap[b]? = some (.cells cs ty (0, 0)) ∧ ob.es.length * ob.z ≤ cs.size ∧
      ∀ (k : Nat) (x : AV) (j : Nat) (y : AV), ob.es[k]? = some x → x.cells[j]? = some y → ∃ v, cs[k * ob.z + j]? = some v ∧ ∃ y0, Rep ok w μ st.S y0 v ∧ y0.scalar = true ∧ y = y0.sd0 mv) :
    RelT ok w0 μ0 S0 ⟨scT mv st.tm, (scS mv st.S).set i (some ob), mv ++ st.mv⟩ (fun j => if j = i then b else μ j) a w' := by
  have hil : i < st.S.length := (List.getElem?_eq_some_iff.1 hi).1
  have hlen : (scS mv st.S).length = st.S.length := by simp [scS_eq]
  have hsome : ∀ (j : Nat) (oj : AObj), ((scS mv st.S).set i (some ob))[j]? = some (some oj) → (j ≠ i ∧ ∃ o1, st.S[j]? = some (some o1) ∧ oj = ⟨o1.z, o1.es.map (AV.sd1 mv)⟩) ∨ (j = i ∧ oj = ob) := by
    intro j oj hj
    rw [List.getElem?_set] at hj
    split at hj
    · rename_i e; subst e
      simp only [hlen, hil, if_true, Option.some.injEq] at hj
      exact .inr ⟨rfl, hj.symm⟩
    · rename_i e
      refine .inl ⟨fun e' => e e'.symm, ?_⟩
      simp only [scS_eq, List.getElem?_map, Option.map_eq_some_iff] at hj
      obtain ⟨x, hx, o1, rfl, hy⟩ := hj
      exact ⟨o1, hx, hy.symm⟩
  have md' : Mod w (liveB st.S μ) w' := ⟨md.os, md.tape, md.output, md.size, fun b hb hn => md.keep b hb (fun hh => hn ⟨i, o, hi, hh.1, hh.2.symm⟩), md.shape⟩
  have lv : ∀ c, c < w.heap.size → liveB ((scS mv st.S).set i (some ob)) (fun j => if j = i then b else μ j) c → liveB st.S μ c := by
    rintro c hc ⟨j, oj, hj, hne, rfl⟩
    rcases hsome j oj hj with ⟨hji, o1, ho1, rfl⟩ | ⟨rfl, rfl⟩
    · exact ⟨j, o1, ho1, by simpa using hne, by simp [hji]⟩
    · simp only [if_true] at hc ⊢
      rcases hb.2 with ⟨hne', e⟩ | hge
      · exact ⟨j, o, hi, hne', e.symm⟩
      · omega
  have mu : ∀ j, j < st.S.length → mv.contains j = false → (if j = i then b else μ j) = μ j := by
    intro j hj hm
    by_cases e : j = i
    · subst e
      rcases hmv with rfl | rfl
      · simp [hb.1 rfl]
      · simp at hm
    · simp [e]
  have hh : Hop w μ st.S w' (fun j => if j = i then b else μ j) ((scS mv st.S).set i (some ob)) mv :=
    ⟨fun ad u hn hc => md'.cell ad u hn hc, lv, by simp [hlen], mu, md'.shape⟩
  have cells_sc1 : ∀ (x : AV) (j : Nat) (y : AV), (∀ y ∈ x.cells, y.scalar = true) → (x.sd1 mv).cells[j]? = some y → ∃ y0, x.cells[j]? = some y0 ∧ y0.scalar = true ∧ y = y0.sd0 mv := by
    intro x j y hx hy
    rcases AV.agg_or x with ⟨xs, rfl⟩ | hc
    · simp only [AV.sd1_agg, AV.cells, List.getElem?_map, Option.map_eq_some_iff] at hy ⊢
      obtain ⟨y0, hy0, e⟩ := hy
      exact ⟨y0, hy0, hx y0 (List.mem_of_getElem? hy0), e.symm⟩
    · have hs := hx x (by simp [hc])
      obtain ⟨_, h2, h3⟩ := AV.sd0_cells mv hs
      rw [h3, h2] at hy
      rw [hc]
      cases j with
      | zero => simp at hy; exact ⟨x, rfl, hs, hy.symm⟩
      | succ j => simp at hy
  have rs : RelS ok w' (fun j => if j = i then b else μ j) ((scS mv st.S).set i (some ob)) := by
    refine ⟨?_, ?_, ?_⟩
    · intro j oj hj hne
      rcases hsome j oj hj with ⟨hji, o1, ho1, rfl⟩ | ⟨rfl, rfl⟩
      · have hne1 : o1.es ≠ [] := by simpa using hne
        obtain ⟨cs, ty, hb', hs, hc⟩ := h.rs.blk j o1 ho1 hne1
        refine ⟨cs, ty, ?_, by simpa using hs, fun k x jj y hk hj' => ?_⟩
        · simp only [hji, if_false]
          rw [md.keep _ (Array.getElem?_eq_some_iff.1 hb').1 (fun hh' => hji (h.rs.inj j i o1 o ho1 hi hne1 hh'.1 hh'.2))]
          exact hb'
        · simp only [List.getElem?_map, Option.map_eq_some_iff] at hk
          obtain ⟨x0, hx0, rfl⟩ := hk
          obtain ⟨y0, hy0, hys, rfl⟩ := cells_sc1 x0 jj y ((h.rs.siz j o1 ho1).2 x0 (List.mem_of_getElem? hx0)).2 hj'
          obtain ⟨v, hv, hr⟩ := hc k x0 jj y0 hx0 hy0
          exact ⟨v, hv, (Rep.sd0 hh hr hys).1⟩
      · obtain ⟨cs, ty, hb', hs, hc⟩ := hcell hne
        refine ⟨cs, ty, by simpa using hb', hs, fun k x jj y hk hj' => ?_⟩
        obtain ⟨v, hv, y0, hr, hys, rfl⟩ := hc k x jj y hk hj'
        exact ⟨v, hv, (Rep.sd0 hh hr hys).1⟩
    · intro j oj hj
      rcases hsome j oj hj with ⟨hji, o1, ho1, rfl⟩ | ⟨rfl, rfl⟩
      · obtain ⟨hz1, hs1⟩ := h.rs.siz j o1 ho1
        refine ⟨hz1, fun x hx => ?_⟩
        obtain ⟨x0, hx0, rfl⟩ := List.mem_map.1 hx
        obtain ⟨hl, hsc⟩ := hs1 x0 hx0
        refine ⟨?_, fun y hy => ?_⟩
        · rcases AV.agg_or x0 with ⟨xs, rfl⟩ | hc
          · simpa [AV.sd1_agg, AV.cells] using hl
          · obtain ⟨_, h2, h3⟩ := AV.sd0_cells mv (hsc x0 (by simp [hc]))
            rw [h3, h2]; rw [hc] at hl; simpa using hl
        · obtain ⟨jj, hjj, rfl⟩ := List.mem_iff_getElem.1 hy
          obtain ⟨y0, _, hys, e⟩ := cells_sc1 x0 jj _ hsc (List.getElem?_eq_getElem hjj)
          rw [e]
          exact (AV.sd0_cells mv hys).1
      · exact ⟨hz, hsiz⟩
    · intro j k oj ok hj hk hnj hnk e
      rcases hsome j oj hj with ⟨hji, o1, ho1, rfl⟩ | ⟨rfl, rfl⟩ <;> rcases hsome k ok hk with ⟨hki, o2, ho2, rfl⟩ | ⟨rfl, rfl⟩
      · simp only [hji, hki, if_false] at e
        exact h.rs.inj j k o1 o2 ho1 ho2 (by simpa using hnj) (by simpa using hnk) e
      · simp only [hji, if_false, if_true] at e
        rcases hb.2 with ⟨hne', eb⟩ | hge
        · exact h.rs.inj j k o1 o ho1 hi (by simpa using hnj) hne' (e.trans eb)
        · have := RelS.block_lt h.rs ⟨j, o1, ho1, by simpa using hnj, rfl⟩
          omega
      · simp only [hki, if_false, if_true] at e
        rcases hb.2 with ⟨hne', eb⟩ | hge
        · exact h.rs.inj j k o o2 hi ho2 hne' (by simpa using hnk) (eb.symm.trans e)
        · have := RelS.block_lt h.rs ⟨k, o2, ho2, by simpa using hnk, rfl⟩
          omega
      · rfl
  exact h.hop mv rs md' lv (by simp [hlen]) mu
end
end
section
inductive OpR where
  | val (φ : Prop) (v : AV)
  | new (φ : Prop) (o : AObj) (v : Nat → AV)
  | set (φ : Prop) (i : Nat) (o : AObj)
  | app (φ : Prop) (i : Nat) (o : AObj) (v : AV)
  | enter (f : FuncId) (args : List AV)
  | stuck
def getO (S : Store) (i : Nat) : Option AObj := match S[i]? with | some (some o) => some o | _ => none
theorem getO_some {S : Store} {i : Nat} {o : AObj} (h : getO S i = some o) : S[i]? = some (some o) := by
  unfold getO at h; split at h <;> simp_all
def AV.ok : AV → Bool
  | .agg _ => true
  | x => x.scalar
def splice (xs : List AV) (k : Nat) (ys : List AV) : List AV := xs.take k ++ ys ++ xs.drop (k + ys.length)
def AV.putAt (x : AV) (k : Nat) (ys : List AV) : AV := match x with | .agg xs => .agg (splice xs k ys) | _ => ys.headD .any
/-- The machine's arithmetic. -/
def binI (op : BinOp) (k : IntKind) (a b : Int) : OpR :=
  match op with
  | .add => .val True (.prim (.int k (k.wrap (a + b))))
  | .sub => .val True (.prim (.int k (k.wrap (a - b))))
  | .mul => .val True (.prim (.int k (k.wrap (a * b))))
  | .quo => .val (b ≠ 0) (.prim (.int k (k.wrap (a.tdiv b))))
  | .rem => .val (b ≠ 0) (.prim (.int k (a.tmod b)))
  | .eql => .val True (.prim (.bool (a == b)))
  | .neq => .val True (.prim (.bool (a != b)))
  | .lss => .val True (.prim (.bool (decide (a < b))))
  | .leq => .val True (.prim (.bool (decide (a ≤ b))))
  | .gtr => .val True (.prim (.bool (decide (a > b))))
  | .geq => .val True (.prim (.bool (decide (a ≥ b))))
  | .xor => .val True (.prim (.int k (k.wrap ((BitVec.ofInt k.bits a ^^^ BitVec.ofInt k.bits b).toNat : Int))))
  | _ => .stuck
def binR (op : BinOp) (sh : Option Sh) : AV → AV → OpR
  | .prim (.int k a), .prim (.int k' b) => if k = k' then binI op k a b else .stuck
  | .prim (.bool a), .prim (.bool b) =>
    match sh with
    | some .bool => match op with
      | .eql => .val True (.prim (.bool (a == b)))
      | .neq => .val True (.prim (.bool (!(a == b))))
      | _ => .stuck
    | _ => .stuck
  | .prim (.string a), .prim (.string b) => match op with
    | .add => .val (a.size + b.size ≤ 9223372036854775807) (.prim (.string (a ++ b)))
    | .eql => .val True (.prim (.bool (a.toList == b.toList)))
    | .neq => .val True (.prim (.bool (!(a.toList == b.toList))))
    | _ => .stuck
  | .sl z xs, .prim (.slice none 0 0) => match sh with
    | some (.slice _) => match op with
      | .eql => .val (0 < xs.length) (.prim (.bool false))
      | .neq => .val (0 < xs.length) (.prim (.bool true))
      | _ => .stuck
    | _ => .stuck
  | .own i z off len, .prim (.slice none 0 0) => match sh with
    | some (.slice _) => match op with
      | .eql => .val (0 < len) (.prim (.bool false))
      | .neq => .val (0 < len) (.prim (.bool true))
      | _ => .stuck
    | _ => .stuck
  | .prim (.slice a n c), .prim (.slice none 0 0) => match sh with
    | some (.slice _) => match op with
      | .eql => .val True (.prim (.bool a.isNone))
      | .neq => .val True (.prim (.bool (!a.isNone)))
      | _ => .stuck
    | _ => .stuck
  | _, _ => .stuck
def isIntA : AV → Bool
  | .prim (.int .i64 _) => true
  | _ => false
def eqA : AV → AV → Bool
  | .prim (.int _ a), .prim (.int _ b) => a == b
  | _, _ => false
def allEq : List AV → List AV → Bool
  | x :: xs, y :: ys => eqA x y && allEq xs ys
  | _, _ => true
/-- A struct of numbers. -/
def TI.eqb (ti : TI) : Bool := ti.agg && ti.zs.all isIntV && (match ti.sh with | .struct _ => true | _ => false)
/-- The machine's arithmetic; structs of numbers compared. -/
def binT (op : BinOp) (ti : Option TI) (x y : AV) : OpR := match x, y, ti with
  | .agg xs, .agg ys, some ti => match op with
    | .eql => .val (ti.eqb = true ∧ xs.length = ti.zs.length ∧ ys.length = ti.zs.length ∧ xs.all isIntA = true ∧ ys.all isIntA = true) (.prim (.bool (allEq xs ys)))
    | .neq => .val (ti.eqb = true ∧ xs.length = ti.zs.length ∧ ys.length = ti.zs.length ∧ xs.all isIntA = true ∧ ys.all isIntA = true) (.prim (.bool (!(allEq xs ys))))
    | _ => .stuck
  | x, y, ti => binR op (ti.map (·.sh)) x y
/-- Bytes, as elements of an object; and as a text. -/
def isByte : AV → Bool
  | .prim (.int .u8 n) => decide (0 ≤ n) && decide (n < 256)
  | _ => false
def byteOf : AV → Int
  | .prim (.int .u8 n) => n
  | _ => 0
def textOf (xs : List AV) : ByteArray := (xs.map byteOf).foldl (fun r n => r.push (UInt8.ofNat n.toNat)) ByteArray.empty
/-- A conversion: between numbers; of bytes to a text. -/
def convR (T : TypeId → Option TI) (S : Store) (s d : TypeId) (x : AV) : OpR :=
  match T s, T d with
  | some ts, some td => match td.sh, x with
    | .int k, .prim (.int _ n) => .val True (.prim (.int k (k.wrap n)))
    | .str, .own i z off len => match ts.sh with
      | .slice e => match T e, getO S i with
        | some te, some o => match te.sh with
          | .int .u8 => .val (z = 1 ∧ o.z = 1 ∧ off + len ≤ o.es.length ∧ 0 < len ∧ ((o.es.drop off).take len).all isByte = true) (.prim (.string (textOf ((o.es.drop off).take len))))
          | _ => .stuck
        | _, _ => .stuck
      | _ => .stuck
    | _, _ => .stuck
  | _, _ => .stuck
def loadR (ti : TI) (S : Store) : AV → OpR
  | .ro xs => if ti.agg then .val (ti.zs.length ≤ xs.length) (.agg ((xs.take ti.zs.length).map D.av0)) else .val (0 < xs.length) (xs.headD default).av0
  | .ref i z k sub => match getO S i with
    | some o => if ti.agg then .val (o.z = z ∧ k < o.es.length ∧ sub + ti.zs.length ≤ z) (.agg (((o.es.getD k .any).cells.drop sub).take ti.zs.length))
      else .val (o.z = z ∧ k < o.es.length ∧ sub < z) ((o.es.getD k .any).cells.getD sub .any)
    | none => .stuck
  | _ => .stuck
def storeR (ti : TI) (S : Store) (v : AV) : AV → OpR
  | .ref i z k sub => match getO S i with
    | some o => .set (o.z = z ∧ k < o.es.length ∧ sub + ti.zs.length ≤ z ∧ v.cells.length = ti.zs.length ∧ v.ok = true) i ⟨o.z, o.es.set k ((o.es.getD k .any).putAt sub v.cells)⟩
    | none => .stuck
  | _ => .stuck
def fieldR (ti : TI) (f : Nat) (x : AV) : OpR :=
  match ti.sh with
  | .struct offs => match offs[f]? with
    | some off => match x with
      | .ref i z k sub => .val True (.ref i z k (sub + off))
      | .ro xs => .val (off < xs.length) (.ro (xs.drop off))
      | _ => .stuck
    | none => .stuck
  | _ => .stuck
def indexR (T : TypeId → Option TI) (ti : TI) (x ix : AV) : OpR :=
  match ix with
  | .prim (.int k n) =>
    match ti.sh with
    | .slice e => match T e with
      | some te => match x with
        | .sl z xs => .val (0 ≤ n ∧ n.toNat < xs.length ∧ te.zs.length = z) (.ro (xs.getD n.toNat default).cells)
        | .own i z off len => .val (0 ≤ n ∧ n.toNat < len ∧ te.zs.length = z) (.ref i z (off + n.toNat) 0)
        | _ => .stuck
      | none => .stuck
    | .array m e => match T e with
      | some te => match x with
        | .ref i z k sub => .val (0 ≤ n ∧ n.toNat < m) (.ref i z k (sub + n.toNat * te.zs.length))
        | _ => .stuck
      | none => .stuck
    | _ => .stuck
  | _ => .stuck
def lenR : AV → OpR
  | .sl _ xs => .val True (.prim (.int .i64 xs.length))
  | .own _ _ _ len => .val True (.prim (.int .i64 len))
  | .prim (.slice _ n _) => .val True (.prim (.int .i64 n))
  | .prim (.string s) => .val True (.prim (.int .i64 s.size))
  | _ => .stuck
def bnd (tm : List AV) (d : Int) : Option Operand → Option Int
  | none => some d
  | some x => match ev tm x with | .prim (.int _ n) => some n | _ => none
def sliceR (T : TypeId → Option TI) (tm : List AV) (ti : TI) (x : AV) (lo hi mx : Option Operand) : OpR :=
  match ti.sh with
  | .slice e => match T e with
    | some te => match x, mx with
      | .sl z xs, none => match bnd tm 0 lo, bnd tm xs.length hi with
        | some l, some h => .val (0 ≤ l ∧ l ≤ h ∧ h ≤ xs.length ∧ te.zs.length = z) (.sl z ((xs.take h.toNat).drop l.toNat))
        | _, _ => .stuck
      | .own i z off len, none => match bnd tm 0 lo, bnd tm len hi with
        | some l, some h => .val (0 ≤ l ∧ l < h ∧ h ≤ len ∧ te.zs.length = z) (.own i z (off + l.toNat) (h.toNat - l.toNat))
        | _, _ => .stuck
      | .own i z off len, some m => match bnd tm 0 lo, bnd tm 0 hi, bnd tm 0 (some m) with
        | some l, some h, some m => .val (l = 0 ∧ h = len ∧ m = len ∧ te.zs.length = z ∧ hi.isSome = true) (.own i z off len)
        | _, _, _ => .stuck
      | _, _ => .stuck
    | none => .stuck
  | _ => .stuck
end
section
section
variable {P : Program} {ok : Nat → Prop} {w : World} {μ : Nat → Nat} {S : Store}
theorem Rep.cellsOf {x : AV} {u : Value} (h : Rep ok w μ S x u) (hx : x.ok = true) : ∃ us : List Value, u.cells = us.toArray ∧ us.length = x.cells.length ∧ ∀ (j : Nat) (y : AV) (v : Value), x.cells[j]? = some y → us[j]? = some v → Rep ok w μ S y v := by
  rcases AV.agg_or x with ⟨xs, rfl⟩ | hc
  · cases h with
    | agg _ vs hl hs h => exact ⟨vs, rfl, hl, h⟩
  · have hs : x.scalar = true := by
      cases x with
      | agg xs =>
        exfalso
        have e := congrArg SizeOf.sizeOf hc
        simp [AV.cells] at e
        omega
      | _ => exact hx
    refine ⟨[u], by simpa using h.oneC hs, by simp [hc], ?_⟩
    intro j y v hj hv
    rw [hc] at hj
    cases j with
    | zero => simp at hj hv; subst hj; subst hv; exact h
    | succ j => simp at hj
/-- The cells of an element of an object, in its block. -/
theorem RelS.cellAt (rs : RelS ok w μ S) {i : Nat} {o : AObj} (hi : S[i]? = some (some o)) {k j : Nat} (hk : k < o.es.length) (hj : j < o.z) :
    ∃ y v, (o.es.getD k .any).cells[j]? = some y ∧ w.cell? ⟨μ i, k * o.z + j, none⟩ = some v ∧ Rep ok w μ S y v ∧ y.scalar = true := by
  have hne : o.es ≠ [] := by intro e; simp [e] at hk
  obtain ⟨cs, ty, hb, hs, hc⟩ := rs.blk i o hi hne
  have hx : o.es[k]? = some (o.es.getD k .any) := by simp [List.getD, List.getElem?_eq_getElem hk]
  obtain ⟨hl, hsc⟩ := (rs.siz i o hi).2 _ (List.mem_of_getElem? hx)
  have hy : (o.es.getD k .any).cells[j]? = some ((o.es.getD k .any).cells[j]'(by omega)) := List.getElem?_eq_getElem (by omega)
  obtain ⟨v, hv, hr⟩ := hc k _ j _ hx hy
  refine ⟨_, v, hy, ?_, hr, hsc _ (List.mem_of_getElem? hy)⟩
  simp [World.cell?, hb, hv]
theorem run_loadVar_agg {t : TypeId} {ti : TI} (ht : tiOf P t = some ti) (ha : ti.agg = true) (ad : Addr) (vs : List Value) (hl : vs.length = ti.zs.length) (h : ∀ j v, vs[j]? = some v → w.cell? (ad.add j) = some v) :
    (loadVar t ad).run P w = .ok (.agg vs.toArray) w := by
  simp only [loadVar, Sem.run_bind, run_isAgg w ht, ha, Result.andThen_ok, if_true, run_sizeOf w ht, ← hl, run_loadCells_list w ad vs h, Sem.run_pure]
theorem run_loadVar_one {t : TypeId} {ti : TI} (ht : tiOf P t = some ti) (ha : ti.agg = false) (ad : Addr) (v : Value) (h : w.cell? ad = some v) :
    (loadVar t ad).run P w = .ok v w := by
  simp [loadVar, run_isAgg w ht, ha, h]
theorem load_sound (rs : RelS ok w μ S) {t : TypeId} {ti : TI} (ht : tiOf P t = some ti) {x : AV} {u : Value} (hx : Rep ok w μ S x u) {φ : Prop} {v : AV} (hr : loadR ti S x = .val φ v) (hφ : φ) :
    ∃ r, (Instr.loadAt t u).run P w = .ok r w ∧ Rep ok w μ S v r := by
  obtain ⟨_, _, _, _, _, _, h0, _, _, _, _, h1⟩ := ti_spec ht
  cases x with
  | ro xs =>
    cases hx with
    | ro _ ad f hsp hne hb hc hd =>
      simp only [Instr.loadAt, Instr.sureAddr, Sem.run_bind, Sem.run_pure, Result.andThen_ok]
      simp only [loadR] at hr
      cases ha : ti.agg with
      | true =>
        rw [ha] at hr
        simp only [if_true] at hr
        injection hr with e1 e2
        subst e1; subst e2
        refine ⟨_, run_loadVar_agg ht ha ad ((List.range ti.zs.length).map f) (by simp) ?_, ?_⟩
        · intro j v hj
          rw [List.getElem?_map, Option.map_eq_some_iff] at hj
          obtain ⟨j', hj', rfl⟩ := hj
          obtain ⟨hlt, rfl⟩ := List.getElem?_eq_some_iff.1 hj'
          simp only [List.getElem_range] at hj' ⊢
          have hlt' : j < xs.length := by simp at hlt; omega
          exact (hc j _ (List.getElem?_eq_getElem hlt')).2
        · refine .agg _ _ (by simp; omega) ?_ ?_
          · intro y hy
            obtain ⟨d, hd', rfl⟩ := List.mem_map.1 hy
            obtain ⟨j, hj, rfl⟩ := List.mem_iff_getElem.1 (List.mem_of_mem_take hd')
            exact (RepD.av (hc j _ (List.getElem?_eq_getElem hj)).1 (hd j _ (List.getElem?_eq_getElem hj))).2
          · intro j y u hj hu
            rw [List.getElem?_map, Option.map_eq_some_iff] at hj hu
            obtain ⟨d, hj, rfl⟩ := hj
            obtain ⟨j', hj', rfl⟩ := hu
            obtain ⟨hlt, rfl⟩ := List.getElem?_eq_some_iff.1 hj'
            rw [List.getElem?_take] at hj
            split at hj
            · simp only [List.getElem_range]
              exact (RepD.av (hc j _ hj).1 (hd j _ hj)).1
            · cases hj
      | false =>
        rw [ha] at hr
        simp only [Bool.false_eq_true, if_false] at hr
        injection hr with e1 e2
        subst e1; subst e2
        cases xs with
        | nil => simp at hφ
        | cons d ds =>
          have := hc 0 d rfl
          rw [add_zero] at this
          exact ⟨_, run_loadVar_one ht ha ad _ this.2, (RepD.av this.1 (hd 0 d rfl)).1⟩
  | ref i z k sub =>
    cases hx with
    | ref _ _ _ _ hi =>
      simp only [Instr.loadAt, Instr.sureAddr, Sem.run_bind, Sem.run_pure, Result.andThen_ok]
      simp only [loadR] at hr
      cases ho : getO S i with
      | none => rw [ho] at hr; cases hr
      | some o =>
        rw [ho] at hr
        simp only at hr
        have hi' := getO_some ho
        cases ha : ti.agg with
        | true =>
          rw [ha] at hr
          simp only [if_true] at hr
          injection hr with e1 e2
          subst e1; subst e2
          obtain ⟨rfl, hk, hsz⟩ := hφ
          have hcell : ∀ j, j < ti.zs.length → ∃ y v, (o.es.getD k .any).cells[sub + j]? = some y ∧ w.cell? ⟨μ i, k * o.z + (sub + j), none⟩ = some v ∧ Rep ok w μ S y v ∧ y.scalar = true :=
            fun j hj => rs.cellAt hi' hk (by omega)
          refine ⟨_, run_loadVar_agg ht ha _ ((List.range ti.zs.length).map fun j => (w.cell? ⟨μ i, k * o.z + (sub + j), none⟩).getD undef) (by simp) ?_, ?_⟩
          · intro j v hj
            rw [List.getElem?_map, Option.map_eq_some_iff] at hj
            obtain ⟨j', hj', rfl⟩ := hj
            obtain ⟨hlt, rfl⟩ := List.getElem?_eq_some_iff.1 hj'
            simp only [List.getElem_range]
            obtain ⟨y, v, _, hv, _⟩ := hcell j (by simpa using hlt)
            simp [Addr.add_lit, Nat.add_assoc, hv]
          · obtain ⟨hl, hsc⟩ := (rs.siz i o hi').2 (o.es.getD k .any) (by simp [List.getD, List.getElem?_eq_getElem hk])
            refine .agg _ _ (by rw [List.length_map, List.length_range, List.length_take, List.length_drop]; omega) ?_ ?_
            · intro y hy
              exact hsc y (List.mem_of_mem_drop (List.mem_of_mem_take hy))
            · intro j y u hj hu
              rw [List.getElem?_take] at hj
              split at hj
              · rename_i hlt
                rw [List.getElem?_drop] at hj
                rw [List.getElem?_map, Option.map_eq_some_iff] at hu
                obtain ⟨j', hj', rfl⟩ := hu
                obtain ⟨hlt', rfl⟩ := List.getElem?_eq_some_iff.1 hj'
                simp only [List.getElem_range]
                obtain ⟨y', v, hy', hv, hr, _⟩ := hcell j hlt
                rw [hy'] at hj
                cases hj
                simpa [hv] using hr
              · cases hj
        | false =>
          rw [ha] at hr
          simp only [Bool.false_eq_true, if_false] at hr
          injection hr with e1 e2
          subst e1; subst e2
          obtain ⟨rfl, hk, hsz⟩ := hφ
          obtain ⟨y, v, hy, hv, hr, _⟩ := rs.cellAt hi' hk hsz
          refine ⟨v, run_loadVar_one ht ha _ v hv, ?_⟩
          show Rep ok w μ S ((o.es.getD k .any).cells[sub]?.getD .any) v
          rw [hy]
          exact hr
  | _ => simp [loadR] at hr
theorem shOf_struct {d : TypeDesc} {offs : List Nat} (h : shOf P d = some (.struct offs)) : ∃ fs, d = .struct fs ∧ fs.toList.map (·.offset) = offs ∧ ∀ f ∈ fs.toList, ∃ i, P.info? f.type = some i ∧ i.size = 1 := by
  cases d <;> simp only [shOf] at h
  all_goals (try (cases h; done))
  rename_i fs
  split at h
  rotate_left
  · cases h
  rename_i hall
  rw [List.all_eq_true] at hall
  simp only [Option.some.injEq, Sh.struct.injEq] at h
  refine ⟨fs, rfl, h, fun f hf => ?_⟩
  have := hall f hf
  split at this
  · rename_i i hi; exact ⟨i, hi, by simpa using this⟩
  · cases this
theorem shOf_slice {d : TypeDesc} {e : TypeId} (h : shOf P d = some (.slice e)) : d = .slice e := by
  cases d <;> simp [shOf] at h
  simp [h]
theorem shOf_array {d : TypeDesc} {n : Nat} {e : TypeId} (h : shOf P d = some (.array n e)) : d = .array n e := by
  cases d <;> simp [shOf] at h
  simp [h]
theorem shOf_bool {d : TypeDesc} (h : shOf P d = some .bool) : d = .bool := by
  cases d <;> simp [shOf] at h
  rfl
theorem ro_drop {xs : List D} {off : Nat} {ad : Addr} (h : Rep ok w μ S (.ro xs) (.pointer (some ad))) (ho : off < xs.length) : Rep ok w μ S (.ro (xs.drop off)) (.pointer (some (ad.add off))) := by
  cases h with
  | ro _ _ f hsp hne hb hc hd =>
    refine .ro _ _ (fun j => f (off + j)) (by unfold Addr.add; split <;> simp [hsp]) (by simp; omega) (by rw [add_block]; exact hb) ?_ ?_
    · intro j y hj
      rw [List.getElem?_drop] at hj
      rw [add_add _ _ _ hsp]
      exact hc _ _ hj
    · intro j y hj
      rw [List.getElem?_drop] at hj
      exact hd _ _ hj
theorem field_sound {t : TypeId} {ti : TI} (ht : tiOf P t = some ti) {x : AV} {u : Value} (hx : Rep ok w μ S x u) {f : Nat} {φ : Prop} {v : AV} (hr : fieldR ti f x = .val φ v) (hφ : φ) :
    ∃ r, (Instr.fieldAt t u f).run P w = .ok r w ∧ Rep ok w μ S v r := by
  obtain ⟨_, d, _, hd, _, _, _, _, hsh, _⟩ := ti_spec ht
  unfold fieldR at hr
  split at hr
  · rename_i offs hs
    rw [hs] at hsh
    obtain ⟨fs, rfl, hoffs, hsz⟩ := shOf_struct hsh
    split at hr
    · rename_i off hoff
      rw [← hoffs, List.getElem?_map, Option.map_eq_some_iff] at hoff
      obtain ⟨fd, hfd, rfl⟩ := hoff
      obtain ⟨i, hi, hone⟩ := hsz fd (List.mem_of_getElem? hfd)
      have hne : i.size ≠ 0 := by omega
      have hplace : ∀ a : Addr, (fieldPlace a fd).run P w = .ok (a.add fd.offset) w := by
        intro a
        simp [fieldPlace, Go.sizeOf, run_typeInfo w hi, hne]
      have hrun : ∀ a : Addr, (Instr.fieldAt t (.pointer (some a)) f).run P w = .ok (.pointer (some (a.add fd.offset))) w := by
        intro a
        have : fs[f]? = some fd := by simpa using hfd
        simp [Instr.fieldAt, run_underlying w hd, this, Instr.sureAddr, hplace]
      cases x with
      | ref i z k sub =>
        simp only at hr
        injection hr with e1 e2
        subst e2
        cases hx with
        | ref _ _ _ _ hi =>
          refine ⟨_, hrun _, ?_⟩
          rw [Addr.add_lit, Nat.add_assoc]
          exact .ref _ _ _ _ hi
      | ro xs =>
        simp only at hr
        injection hr with e1 e2
        subst e1; subst e2
        cases hx with
        | ro _ ad f' hsp hne' hb hc hd' => exact ⟨_, hrun _, ro_drop (.ro _ ad f' hsp hne' hb hc hd') hφ⟩
      | _ => simp at hr
    · cases hr
  · cases hr
end
end
section
section
variable {P : Program} {ok : Nat → Prop} {w : World} {μ : Nat → Nat} {S : Store}
theorem elem_ro {z : Nat} {xs : List D} {A : Option Addr} {n c : Nat} (h : RepD w (fun b => ok b ∧ ¬ liveB S μ b) (.sl z xs) (.slice A n c)) {i : Nat} (hi : i < xs.length) :
    ∃ ad, A = some ad ∧ Rep ok w μ S (.ro (xs.getD i default).cells) (.pointer (some (ad.add (i * z)))) := by
  cases h with
  | sl _ _ _ _ _ ad f hn hc hA hz0 hz h1 h2 =>
    obtain ⟨e, hok, hsp⟩ := hA (by intro e; simp [e] at hi)
    have hx : xs[i]? = some (xs.getD i default) := by simp [List.getD, List.getElem?_eq_getElem hi]
    obtain ⟨hl, hs⟩ := hz i _ hx
    refine ⟨ad, e, .ro _ _ (fun j => f i j) (by unfold Addr.add; split <;> simp [hsp]) (by omega) (by rw [add_block]; exact hok) ?_ ?_⟩
    · intro j y hj
      rw [add_add _ _ _ hsp]
      exact ⟨hs y (List.mem_of_getElem? hj), h1 i _ j y hx hj⟩
    · intro j y hj
      exact h2 i _ j y hx hj
theorem run_indexAt_slice {t e : TypeId} {ti te : TI} (ht : tiOf P t = some ti) (hs : ti.sh = .slice e) (he : tiOf P e = some te) (ad : Addr) (len cap : Nat) (k : IntKind) (n : Int) (h0 : 0 ≤ n) (h1 : n.toNat < len) :
    (Instr.indexAt t (.slice (some ad) len cap) (.int k n)).run P w = .ok (.pointer (some (ad.add (n.toNat * te.zs.length)))) w := by
  obtain ⟨_, d, _, hd, _, _, _, _, hsh, _⟩ := ti_spec ht
  rw [hs] at hsh
  obtain rfl := shOf_slice hsh
  have h1' : n < (len : Int) := by omega
  simp [Instr.indexAt, asIntOf, run_underlying w hd, run_sizeOf w he, h0, h1']
theorem run_indexAt_array {t e : TypeId} {ti te : TI} (ht : tiOf P t = some ti) {m : Nat} (hs : ti.sh = .array m e) (he : tiOf P e = some te) (ad : Addr) (k : IntKind) (n : Int) (h0 : 0 ≤ n) (h1 : n.toNat < m) :
    (Instr.indexAt t (.pointer (some ad)) (.int k n)).run P w = .ok (.pointer (some (ad.add (n.toNat * te.zs.length)))) w := by
  obtain ⟨_, d, _, hd, _, _, _, _, hsh, _⟩ := ti_spec ht
  rw [hs] at hsh
  obtain rfl := shOf_array hsh
  have h1' : n < (m : Int) := by omega
  simp [Instr.indexAt, asIntOf, run_underlying w hd, run_sizeOf w he, h0, h1', Instr.sureAddr]
theorem index_sound {t : TypeId} {ti : TI} (ht : tiOf P t = some ti) {x ix : AV} {u ui : Value} (hx : Rep ok w μ S x u) (hi : Rep ok w μ S ix ui) {φ : Prop} {v : AV} (hr : indexR (tiOf P) ti x ix = .val φ v) (hφ : φ) :
    ∃ r, (Instr.indexAt t u ui).run P w = .ok r w ∧ Rep ok w μ S v r := by
  unfold indexR at hr
  split at hr
  · rename_i k n
    cases hi
    split at hr
    · rename_i e hs
      split at hr
      · rename_i te he
        cases x with
        | sl z xs =>
          simp only at hr
          injection hr with e1 e2
          subst e1; subst e2
          obtain ⟨h0, h1, rfl⟩ := hφ
          cases hx with
          | sl _ _ _ hd =>
            cases hd with
            | sl _ _ nn A c ad f hn hc hA hz0 hz h1' h2' =>
              obtain ⟨ad', e, hro⟩ := elem_ro (.sl _ xs nn A c ad f hn hc hA hz0 hz h1' h2') h1
              subst e
              exact ⟨_, run_indexAt_slice ht hs he _ _ _ _ _ h0 (by omega), hro⟩
        | own i z off len =>
          simp only at hr
          injection hr with e1 e2
          subst e1; subst e2
          obtain ⟨h0, h1, rfl⟩ := hφ
          cases hx with
          | own0 => omega
          | own _ _ _ _ c cs ty hi hl hc hb hsz =>
            refine ⟨_, run_indexAt_slice ht hs he _ _ _ _ _ h0 h1, ?_⟩
            rw [Addr.add_lit, ← Nat.add_mul]
            exact .ref i _ (off + n.toNat) 0 hi
        | _ => simp at hr
      · cases hr
    · rename_i m e hs
      split at hr
      · rename_i te he
        cases x with
        | ref i z k' sub =>
          simp only at hr
          injection hr with e1 e2
          subst e1; subst e2
          obtain ⟨h0, h1⟩ := hφ
          cases hx with
          | ref _ _ _ _ hi =>
            refine ⟨_, run_indexAt_array ht hs he _ _ _ h0 h1, ?_⟩
            rw [Addr.add_lit, Nat.add_assoc]
            exact .ref _ _ _ _ hi
        | _ => simp at hr
      · cases hr
    · cases hr
  · cases hr
theorem len_sound {t ty : TypeId} {ti : TI} (ht : tiOf P t = some ti) (hsh : (∃ e, ti.sh = .slice e) ∨ ti.sh = .str) {x : AV} {u : Value} (hx : Rep ok w μ S x u) {φ : Prop} {v : AV} (hr : lenR x = .val φ v)
    (hk : (∃ e, ti.sh = .slice e) → ∀ s, x ≠ .prim (.string s)) (hk2 : ti.sh = .str → ∃ s, x = .prim (.string s)) :
    ∃ r, (Builtin.len_ #[t] ty #[u]).run P w = .ok r w ∧ Rep ok w μ S v r := by
  obtain ⟨_, d, _, hd, _, _, _, _, hs, _⟩ := ti_spec ht
  rcases hsh with ⟨e, he⟩ | he
  · rw [he] at hs
    obtain rfl := shOf_slice hs
    have hrun : ∀ A n c, (Builtin.len_ #[t] ty #[.slice A n c]).run P w = .ok (.int .i64 n) w := by
      intro A n c
      simp [Builtin.len_, run_underlying w hd, goInt]
    cases x with
    | sl z xs =>
      simp only [lenR] at hr; injection hr with e1 e2; subst e2
      cases hx with
      | sl _ _ _ hd' => cases hd' with | sl _ _ nn A c ad f hn => subst hn; exact ⟨_, hrun _ _ _, .prim _ rfl⟩
    | own i z off len =>
      simp only [lenR] at hr; injection hr with e1 e2; subst e2
      cases hx with
      | own0 => exact ⟨_, hrun _ _ _, .prim _ rfl⟩
      | own => exact ⟨_, hrun _ _ _, .prim _ rfl⟩
    | prim p =>
      cases hx
      cases u with
      | slice A n c => simp only [lenR] at hr; injection hr with e1 e2; subst e2; exact ⟨_, hrun _ _ _, .prim _ rfl⟩
      | string s => exact absurd rfl (hk ⟨e, he⟩ s)
      | _ => simp [lenR] at hr
    | _ => simp [lenR] at hr
  · obtain ⟨s, rfl⟩ := hk2 he
    rw [he] at hs
    have hd' : d = .string := by cases d <;> simp [shOf] at hs; rfl
    subst hd'
    cases hx
    simp only [lenR] at hr; injection hr with e1 e2; subst e2
    exact ⟨.int .i64 s.size, by simp [Builtin.len_, run_underlying w hd, goInt], .prim _ rfl⟩
theorem binI_sound {op : BinOp} {k : IntKind} {a b : Int} {t : TypeId} {x y : Operand} {φ : Prop} {v : AV} (hr : binI op k a b = .val φ v) (hφ : φ) :
    ∃ r, (do eqGuard op t x y (.int k a) (.int k b); binOp op t (.int k a) (.int k b) : Sem Value).run P w = .ok r w ∧ Rep ok w μ S v r := by
  cases op <;> simp only [binI] at hr <;> first | (cases hr; done) | skip
  all_goals injection hr with e1 e2; subst e1; subst e2
  all_goals refine ⟨_, ?_, .prim _ rfl⟩
  all_goals simp [eqGuard_at_int, binOp, Op.intArith, Op.intDiv, Op.intCmp, Op.intBits]
  all_goals simp_all
theorem und_slice {t e : TypeId} {ti : TI} (ht : tiOf P t = some ti) (hs : ti.sh = .slice e) : P.underlying t = some (.slice e) := by
  obtain ⟨_, d, _, hd, _, _, _, _, hsh, _⟩ := ti_spec ht
  rw [hs] at hsh
  obtain rfl := shOf_slice hsh
  exact hd
theorem nil_eq {t e : TypeId} {w : World} (hd : P.underlying t = some (.slice e)) (a : Option Addr) (n c : Nat) (ox oy : Operand) {op : BinOp} {b : Bool} (hb : (op = .eql ∧ b = a.isNone) ∨ (op = .neq ∧ b = !a.isNone)) :
    (do eqGuard op t ox oy (.slice a n c) (.slice none 0 0); binOp op t (.slice a n c) (.slice none 0 0) : Sem Value).run P w = .ok (.bool b) w := by
  have heq : (Op.equal t (.slice a n c) (.slice none 0 0)).run P w = .ok a.isNone w := by
    have h1 : ∀ m, (Op.equalIn (m + 1) t (.slice a n c) (.slice none 0 0)).run P w = .ok a.isNone w := fun m => by cases a <;> simp [Op.equalIn, run_underlying w hd]
    exact h1 9999
  rcases hb with ⟨rfl, rfl⟩ | ⟨rfl, rfl⟩
  · simp [eqGuard, binOp, heq]
  · simp [eqGuard, binOp, heq]
theorem bin_sound {op : BinOp} {t : TypeId} {ti : Option TI} (ht : tiOf P t = ti) {x y : AV} {ux uy : Value} {ox oy : Operand} (hx : Rep ok w μ S x ux) (hy : Rep ok w μ S y uy) {φ : Prop} {v : AV} (hr : binR op (ti.map (·.sh)) x y = .val φ v) (hφ : φ) :
    ∃ r, (do eqGuard op t ox oy ux uy; binOp op t ux uy : Sem Value).run P w = .ok r w ∧ Rep ok w μ S v r := by
  unfold binR at hr
  split at hr
  · cases hx; cases hy
    split at hr
    · rename_i h; subst h; exact binI_sound hr hφ
    · cases hr
  · rename_i a b
    cases hx; cases hy
    split at hr
    · rename_i hsh
      obtain ⟨ti', hti', hsh'⟩ := Option.map_eq_some_iff.1 hsh
      subst hti'
      obtain ⟨_, d, _, hd, _, _, _, _, hs, _⟩ := ti_spec ht
      rw [hsh'] at hs
      obtain rfl := shOf_bool hs
      have heq : (Op.equal t (.bool a) (.bool b)).run P w = .ok (a == b) w := by
        have h1 : ∀ n, (Op.equalIn (n + 1) t (.bool a) (.bool b)).run P w = .ok (a == b) w := fun n => by simp [Op.equalIn, run_underlying w hd]
        exact h1 9999
      split at hr <;> first | (cases hr; done) | skip
      all_goals injection hr with e1 e2; subst e2
      all_goals exact ⟨_, by simp [eqGuard_at_bool, binOp, heq], .prim _ rfl⟩
    · cases hr
  · rename_i a b
    cases hx; cases hy
    split at hr <;> first | (cases hr; done) | skip
    · injection hr with e1 e2; subst e1; subst e2
      refine ⟨_, ?_, .prim _ rfl⟩
      have h : ¬ (((a.size + b.size : Nat) : Int) > IntKind.i64.max) := by
        have : IntKind.i64.max = 9223372036854775807 := rfl
        rw [this]; omega
      simp only [eqGuard, binOp, Op.stringOp]
      rw [if_neg h]
      rfl
    · injection hr with e1 e2; subst e2
      exact ⟨_, by simp only [eqGuard, binOp, Op.stringOp]; rfl, .prim _ rfl⟩
    · injection hr with e1 e2; subst e2
      exact ⟨_, by simp only [eqGuard, binOp, Op.stringOp]; rfl, .prim _ rfl⟩
  · rename_i z xs
    split at hr
    · rename_i e hsh
      obtain ⟨ti', hti', hsh'⟩ := Option.map_eq_some_iff.1 hsh
      subst hti'
      have hd := und_slice ht hsh'
      cases hy
      cases hx with
      | sl _ _ _ hx =>
        cases hx with
        | sl _ _ n A c ad f hn hcap hA hz0 hz h1 h2 =>
          split at hr <;> first | (cases hr; done) | skip
          all_goals
            injection hr with e1 e2; subst e1; subst e2
            obtain ⟨rfl, _⟩ := hA (by intro e; subst e; simp at hφ)
            exact ⟨_, nil_eq hd (some ad) n c ox oy (by simp), .prim _ rfl⟩
    · cases hr
  · rename_i i z off len
    split at hr
    · rename_i e hsh
      obtain ⟨ti', hti', hsh'⟩ := Option.map_eq_some_iff.1 hsh
      subst hti'
      have hd := und_slice ht hsh'
      cases hy
      split at hr <;> first | (cases hr; done) | skip
      all_goals
        injection hr with e1 e2; subst e1; subst e2
        cases hx with
        | own0 => simp at hφ
        | own _ _ _ _ c cs ty hi h0 hc hb hsz => exact ⟨_, nil_eq hd (some _) len c ox oy (by simp), .prim _ rfl⟩
    · cases hr
  · rename_i a n c
    split at hr
    · rename_i e hsh
      obtain ⟨ti', hti', hsh'⟩ := Option.map_eq_some_iff.1 hsh
      subst hti'
      have hd := und_slice ht hsh'
      cases hx; cases hy
      split at hr <;> first | (cases hr; done) | skip
      all_goals
        injection hr with e1 e2; subst e1; subst e2
        exact ⟨_, nil_eq hd a n c ox oy (by simp), .prim _ rfl⟩
    · cases hr
  · cases hr
theorem allEq_fields {d : Nat} {w : World} {vs us : Array Value} {xs ys : List AV} (hx : ∀ (j : Nat) (x : AV), xs[j]? = some x → ∃ v, vs[j]? = some v ∧ isIntA x = true ∧ ∃ n, x = .prim (.int .i64 n) ∧ v = .int .i64 n)
    (hy : ∀ (j : Nat) (x : AV), ys[j]? = some x → ∃ v, us[j]? = some v ∧ isIntA x = true ∧ ∃ n, x = .prim (.int .i64 n) ∧ v = .int .i64 n) :
    ∀ (fs : List Field) (k : Nat), k + fs.length = xs.length → k + fs.length = ys.length → fs.map (·.offset) = List.range' k fs.length → (∀ f ∈ fs, (f.name != "_") = true ∧ ∃ kk, P.underlying f.type = some (.int kk)) →
      (Op.eqFields (d + 1) vs us fs).run P w = .ok (allEq (xs.drop k) (ys.drop k)) w
  | [], k, h1, h2, _, _ => by
    simp only [List.length_nil, Nat.add_zero] at h1
    rw [List.drop_eq_nil_of_le (by omega)]
    simp [Op.eqFields, allEq]
  | f :: fs, k, h1, h2, ho, hf => by
    simp only [List.length_cons] at h1 h2
    have hkx : k < xs.length := by omega
    have hky : k < ys.length := by omega
    obtain ⟨v, hv, _, n, ex, rfl⟩ := hx k _ (List.getElem?_eq_getElem hkx)
    obtain ⟨u, hu, _, m, ey, rfl⟩ := hy k _ (List.getElem?_eq_getElem hky)
    simp only [List.map_cons, List.length_cons, List.range'_succ, List.cons.injEq] at ho
    obtain ⟨ho1, ho2⟩ := ho
    obtain ⟨hn, kk, hk⟩ := hf f (by simp)
    have hn' : f.name ≠ "_" := by simpa using hn
    have ih := allEq_fields (d := d) (w := w) hx hy fs (k + 1) (by omega) (by omega) ho2 (fun g hg => hf g (List.mem_cons_of_mem _ hg))
    rw [List.drop_eq_getElem_cons hkx, List.drop_eq_getElem_cons hky, ex, ey, allEq, eqA]
    have hagg : (isAgg f.type).run P w = .ok false w := by simp [isAgg, run_underlying w hk]
    have p1 : (part f.type vs f.offset).run P w = .ok (.int .i64 n) w := by simp [part, hagg, ho1, hv]
    have p2 : (part f.type us f.offset).run P w = .ok (.int .i64 m) w := by simp [part, hagg, ho1, hu]
    have he : (Op.equalIn (d + 1) f.type (.int .i64 n) (.int .i64 m)).run P w = .ok (n == m) w := by simp [Op.equalIn, run_underlying w hk]
    rw [Op.eqFields]
    simp only [if_pos hn', Sem.run_bind, p1, p2, he, Result.andThen_ok]
    cases hnm : n == m
    · simp
    · simpa using ih
theorem binT_sound {op : BinOp} {t : TypeId} {ti : Option TI} (ht : tiOf P t = ti) {x y : AV} {ux uy : Value} {ox oy : Operand} (hx : Rep ok w μ S x ux) (hy : Rep ok w μ S y uy) {φ : Prop} {v : AV} (hr : binT op ti x y = .val φ v) (hφ : φ) :
    ∃ r, (do eqGuard op t ox oy ux uy; binOp op t ux uy : Sem Value).run P w = .ok r w ∧ Rep ok w μ S v r := by
  unfold binT at hr
  split at hr
  · rename_i xs ys ti
    have key : (ti.eqb = true ∧ xs.length = ti.zs.length ∧ ys.length = ti.zs.length ∧ xs.all isIntA = true ∧ ys.all isIntA = true) → P.eqGuardType P.depth t = false ∧ (Op.equal t ux uy).run P w = .ok (allEq xs ys) w ∧ (∃ a, ux = .agg a) ∧ (∃ b, uy = .agg b) := by
      rintro ⟨e1, e2, e3, e4, e5⟩
      unfold TI.eqb at e1
      simp only [Bool.and_eq_true] at e1
      obtain ⟨⟨g1, g2⟩, g3⟩ := e1
      obtain ⟨offs, hoffs⟩ : ∃ offs, ti.sh = .struct offs := by
        cases hsh : ti.sh <;> rw [hsh] at g3 <;> first | exact ⟨_, rfl⟩ | cases g3
      obtain ⟨i, d, hi, hd, _, hsz, _, _, hsh, _⟩ := ti_spec ht
      rw [hoffs] at hsh
      obtain ⟨fs, rfl, hof, _⟩ := shOf_struct hsh
      have hq := ti_eqT ht g1 g2 hd
      unfold eqT at hq
      simp only [Bool.and_eq_true, Bool.not_eq_true', decide_eq_true_eq, List.all_eq_true] at hq
      obtain ⟨⟨⟨⟨q1, q2⟩, q3⟩, q4⟩, q5⟩ := hq
      have hlen : fs.size = ti.zs.length := by
        rw [hi] at q5
        simp only [decide_eq_true_eq] at q5
        omega
      cases hx with
      | agg _ vs hl hs h =>
        cases hy with
        | agg _ us hl' hs' h' =>
          refine ⟨q1, ?_, ⟨_, rfl⟩, ⟨_, rfl⟩⟩
          have cell : ∀ (zs : List AV) (ws : List Value), ws.length = zs.length → zs.all isIntA = true → (∀ (j : Nat) (x : AV) (v : Value), zs[j]? = some x → ws[j]? = some v → Rep ok w μ S x v) → ∀ (j : Nat) (x : AV), zs[j]? = some x → ∃ v, ws.toArray[j]? = some v ∧ isIntA x = true ∧ ∃ n, x = .prim (.int .i64 n) ∧ v = .int .i64 n := by
            intro zs ws hlw hall hrep j x hj
            have hjl := (List.getElem?_eq_some_iff.1 hj).1
            rw [List.all_eq_true] at hall
            have hix := hall x (List.mem_of_getElem? hj)
            have hwj : ws[j]? = some (ws[j]'(by omega)) := List.getElem?_eq_getElem (by omega)
            have hr1 := hrep j x _ hj hwj
            obtain ⟨n, rfl⟩ : ∃ n, x = .prim (.int .i64 n) := by
              unfold isIntA at hix
              split at hix
              · exact ⟨_, rfl⟩
              · cases hix
            have : ws[j]'(by omega) = .int .i64 n := by
              generalize ws[j]'(by omega) = u at hr1
              cases hr1; rfl
            exact ⟨_, by simp, hix, n, rfl, this⟩
          have hfld : P.fieldsOf t = fs := by simp [Program.fieldsOf, hd]
          have hrun : ∀ m, (Op.equalIn (m + 2) t (.agg vs.toArray) (.agg us.toArray)).run P w = .ok (allEq xs ys) w := by
            intro m
            rw [run_equalIn_struct (P := P) w (m + 1) t vs.toArray us.toArray (by rw [hfld]; exact hd) q2, hfld]
            have := allEq_fields (P := P) (d := m) (w := w) (cell xs vs hl e4 h) (cell ys us hl' e5 h') fs.toList 0 (by simp; omega) (by simp; omega) (by rw [q4, List.range_eq_range']; simp) (fun f hf => by
              obtain ⟨a1, a2⟩ := q3 f hf
              refine ⟨a1, ?_⟩
              split at a2
              · exact ⟨_, by assumption⟩
              · cases a2)
            simpa using this
          exact hrun 9998
    split at hr <;> first | (cases hr; done) | skip
    all_goals
      injection hr with e1 e2
      subst e1; subst e2
      obtain ⟨k1, k2, ⟨a, rfl⟩, ⟨b, rfl⟩⟩ := key hφ
      exact ⟨_, by simp [eqGuard, binOp, k1, k2], .prim _ rfl⟩
  · exact bin_sound ht hx hy hr hφ
theorem shOf_int' {d : TypeDesc} {k : IntKind} (h : shOf P d = some (.int k)) : d = .int k := by
  cases d <;> simp [shOf] at h
  subst h; rfl
/-- Conversions. -/
theorem conv_sound (rs : RelS ok w μ S) {s d : TypeId} {x : AV} {u : Value} (hx : Rep ok w μ S x u) {φ : Prop} {v : AV} (hr : convR (tiOf P) S s d x = .val φ v) (hφ : φ) :
    ∃ r, (convert s d u).run P w = .ok r w ∧ Rep ok w μ S v r := by
  unfold convR at hr
  split at hr
  · rename_i ts td hts htd
    obtain ⟨_, ds, _, hds, _, _, _, _, hss, _⟩ := ti_spec hts
    obtain ⟨_, dd, _, hdd, _, _, _, _, hsd, _⟩ := ti_spec htd
    split at hr
    · rename_i k k' n hk
      rw [hk] at hsd
      obtain rfl := shOf_int' hsd
      injection hr with e1 e2; subst e2
      cases hx
      exact ⟨.int k (k.wrap n), by simp [convert, run_underlying w hds, run_underlying w hdd, Conv.intToInt], .prim _ rfl⟩
    · rename_i i z off len hk
      rw [hk] at hsd
      have hdd' : dd = .string := by cases dd <;> simp [shOf] at hsd; rfl
      subst hdd'
      split at hr
      · rename_i e he
        rw [he] at hss
        obtain rfl := shOf_slice hss
        split at hr
        · rename_i te o hte ho
          obtain ⟨_, de, _, hde, _, _, _, _, hse, _⟩ := ti_spec hte
          split at hr
          · rename_i hu8
            rw [hu8] at hse
            obtain rfl := shOf_int' hse
            injection hr with e1 e2; subst e1; subst e2
            obtain ⟨rfl, hz, hl, h0, hall⟩ := hφ
            have hi := getO_some ho
            cases hx with
            | own0 => omega
            | own _ _ _ _ c cs ty hi' h0' hc hb hsz =>
              have hcells : (loadCells ⟨μ i, off * 1, none⟩ len).run P w = .ok ((((o.es.drop off).take len).map byteOf).map (Value.int .u8)).toArray w := by
                have hlen : ((((o.es.drop off).take len).map byteOf).map (Value.int .u8)).length = len := by
                  rw [List.length_map, List.length_map, List.length_take, List.length_drop]; omega
                have := run_loadCells_list (P := P) w ⟨μ i, off * 1, none⟩ ((((o.es.drop off).take len).map byteOf).map (Value.int .u8)) ?_
                · rw [hlen] at this; exact this
                · intro j v hj
                  rw [List.getElem?_map, List.getElem?_map, List.getElem?_take] at hj
                  split at hj
                  · rename_i hjl
                    rw [List.getElem?_drop] at hj
                    have hjo : off + j < o.es.length := by omega
                    rw [List.getElem?_eq_getElem hjo] at hj
                    simp only [Option.map_some, Option.some.injEq] at hj
                    have hby : isByte (o.es[off + j]) = true := by
                      rw [List.all_eq_true] at hall
                      refine hall _ (List.mem_of_getElem? (i := j) ?_)
                      rw [List.getElem?_take, if_pos hjl, List.getElem?_drop, List.getElem?_eq_getElem hjo]
                    obtain ⟨y, v', hy, hv', hr', _⟩ := rs.cellAt hi (k := off + j) (j := 0) hjo (by omega)
                    have hgd : o.es.getD (off + j) .any = o.es[off + j] := by simp [List.getD, List.getElem?_eq_getElem hjo]
                    rw [hgd] at hy
                    generalize o.es[off + j] = ej at hby hy hj
                    unfold isByte at hby
                    split at hby
                    · rename_i n
                      simp only [AV.cells, List.getElem?_cons_zero, Option.some.injEq] at hy
                      subst hy
                      cases hr'
                      rw [Addr.add_lit, ← hj]
                      rw [hz] at hv'
                      simpa [byteOf, Nat.mul_one] using hv'
                    · cases hby
                  · simp at hj
              refine ⟨.string (textOf ((o.es.drop off).take len)), ?_, .prim _ rfl⟩
              simp only [convert, Sem.run_bind, run_underlying w hds, run_underlying w hdd, Result.andThen_ok]
              simp only [Sem.run_bind, run_underlying w hde, Result.andThen_ok]
              exact run_bytesToString w _ len c _ hcells
          · cases hr
        · cases hr
      · cases hr
    · cases hr
  · cases hr
end
end
section
/-- Without a mark of an object. -/
def AV.pur0 : AV → Bool
  | .prim _ => true
  | .sl _ _ => true
  | .ro _ => true
  | .junk => true
  | _ => false
/-- Without a mark of the object i. -/
def AV.nm0 (i : Nat) : AV → Bool
  | .own j _ _ _ => j != i
  | .ref j _ _ _ => j != i
  | x => x.pur0
def AV.pur (i : Nat) : AV → Bool
  | .agg xs => xs.all (AV.nm0 i)
  | x => x.nm0 i
/-- The elements of a slice that is appended, or copied. -/
def srcR (S : Store) (z : Nat) : AV → Option (Prop × List AV)
  | .sl z' xs => some (z' = z, xs.map D.av)
  | .own j z' off m => match getO S j with
    | some o => some (z' = z ∧ o.z = z ∧ off + m ≤ o.es.length, (o.es.drop off).take m)
    | none => none
  | .prim (.slice _ 0 _) => some (True, [])
  | _ => none
def appendR (T : TypeId → Option TI) (S : Store) (t : TypeId) (x y : AV) : OpR :=
  match T t with
  | some ti => match ti.sh with
    | .slice e => match T e with
      | some te => match srcR S te.zs.length y with
        | some (ψ, ys) => match x with
          | .prim (.slice none 0 0) => .new (ψ ∧ ys.length * te.bytes ≤ 140737488355328 ∧ 0 < te.bytes) ⟨te.zs.length, ys⟩ (fun i => .own i te.zs.length 0 ys.length)
          | .own i z off len => match getO S i with
            | some o => .app (ψ ∧ off = 0 ∧ z = te.zs.length ∧ o.z = z ∧ o.es.length = len ∧ (len + ys.length) * te.bytes ≤ 140737488355328 ∧ 0 < te.bytes ∧ (o.es ++ ys).all (AV.pur i) = true) i ⟨o.z, o.es ++ ys⟩ (.own i z 0 (len + ys.length))
            | none => .stuck
          | _ => .stuck
        | none => .stuck
      | none => .stuck
    | _ => .stuck
  | none => .stuck
def makeR (T : TypeId → Option TI) (t : TypeId) (l c : AV) : OpR :=
  match T t with
  | some ti => match ti.sh with
    | .slice e => match T e with
      | some te => match l, c with
        | .prim (.int .i64 n), .prim (.int .i64 m) => .new (n = m ∧ 0 ≤ n ∧ te.bytes * n ≤ 140737488355328 ∧ n ≤ 9223372036854775807) ⟨te.zs.length, List.replicate n.toNat te.zav⟩ (fun i => .own i te.zs.length 0 n.toNat)
        | _, _ => .stuck
      | none => .stuck
    | _ => .stuck
  | none => .stuck
def buildSliceR (T : TypeId → Option TI) (tm : List AV) (t : TypeId) (len : Nat) (parts : Array (Nat × Operand)) : OpR :=
  match T t with
  | some ti => match ti.sh with
    | .slice e => match T e with
      | some te => .new (parts.toList.map (·.1) = List.range len ∧ len * te.zs.length ≤ 16777216 ∧ (parts.toList.map fun p => ev tm p.2).all (fun x => x.ok && x.cells.length == te.zs.length) = true)
          ⟨te.zs.length, parts.toList.map fun p => ev tm p.2⟩ (fun i => .own i te.zs.length 0 len)
      | none => .stuck
    | _ => .stuck
  | none => .stuck
def fillR (offs : List Nat) (tm : List AV) : List AV → List (Nat × Operand) → Option (List AV)
  | cs, [] => some cs
  | cs, (i, x) :: r => match offs[i]? with
    | some off => if (ev tm x).scalar && decide (off < cs.length) then fillR offs tm (cs.set off (ev tm x)) r else none
    | none => none
def buildR (T : TypeId → Option TI) (tm : List AV) (t : TypeId) (parts : Array (Nat × Operand)) : OpR :=
  match T t with
  | some ti => match ti.sh with
    | .struct offs => if offs = List.range ti.zs.length then (match fillR offs tm (ti.zs.map .prim) parts.toList with | some cs => .val True (.agg cs) | none => .stuck) else .stuck
    | _ => .stuck
  | none => .stuck
def lenOpR (T : TypeId → Option TI) (t : TypeId) (x : AV) : OpR :=
  match T t with
  | some ti => match ti.sh, x with
    | .slice _, .prim (.string _) => .stuck
    | .slice _, x => lenR x
    | .str, .prim (.string s) => lenR (.prim (.string s))
    | _, _ => .stuck
  | none => .stuck
def maxR (lt : Bool) : AV → AV → OpR
  | .prim (.int k x), .prim (.int _ y) => .val True (.prim (.int k (if lt then (if y < x then y else x) else (if y > x then y else x))))
  | _, _ => .stuck
def callR (T : TypeId → Option TI) (tm : List AV) (S : Store) (c : Call) : OpR :=
  match c.callee, c.args.toList, c.argTypes.toList with
  | .builtin .len, [x], [t] => lenOpR T t (ev tm x)
  | .builtin .append, [x, y], [t, t'] => if t = t' then appendR T S t (ev tm x) (ev tm y) else .stuck
  | .builtin .max, [x, y], _ => maxR false (ev tm x) (ev tm y)
  | .builtin .min, [x, y], _ => maxR true (ev tm x) (ev tm y)
  | .value f, xs, _ => match ev tm f with
    | .clo g caps => .enter g (xs.map (ev tm) ++ caps)
    | _ => .stuck
  | _, _, _ => .stuck
def onT (T : TypeId → Option TI) (t : TypeId) (f : TI → OpR) : OpR := match T t with | some ti => f ti | none => .stuck
/-- A slice of data, cut down to nothing, its capacity too: a slice of a new object. -/
def cutR (T : TypeId → Option TI) (tm : List AV) (t : TypeId) (z : Nat) (lo hi : Option Operand) (m : Operand) : OpR :=
  match T t with
  | some ti => match ti.sh with
    | .slice e => match T e with
      | some te => match lo, hi with
        | none, some hx => match ev tm hx, ev tm m with
          | .prim (.int _ h), .prim (.int _ mm) => .new (h = 0 ∧ mm = 0 ∧ te.zs.length = z) ⟨te.zs.length, []⟩ (fun i => .own i te.zs.length 0 0)
          | _, _ => .stuck
        | _, _ => .stuck
      | none => .stuck
    | _ => .stuck
  | none => .stuck
def opR (T : TypeId → Option TI) (tm : List AV) (S : Store) (o : Op) : OpR :=
  match o with
  | .move x => .val True (ev tm x)
  | .assign x => .val True (ev tm x)
  | .pick c x y => match ev tm c with | .prim (.bool b) => .val True (bif b then ev tm x else ev tm y) | _ => .stuck
  | .load t x => onT T t fun ti => loadR ti S (ev tm x)
  | .store t x v => onT T t fun ti => storeR ti S (ev tm v) (ev tm x)
  | .fieldAddr t x f => onT T t fun ti => fieldR ti f (ev tm x)
  | .indexAddr t x ix => onT T t fun ti => indexR T ti (ev tm x) (ev tm ix)
  | .binOp op t x y _ => binT op (T t) (ev tm x) (ev tm y)
  | .unOp op _ x => match op, ev tm x with
    | .not, .prim (.bool b) => .val True (.prim (.bool (!b)))
    | .neg, .prim (.int k n) => .val True (.prim (.int k (k.wrap (-n))))
    | _, _ => .stuck
  | .nilCheck x => match ev tm x with | .ref i z k s => .val True (.ref i z k s) | .ro xs => .val True (.ro xs) | _ => .stuck
  | .extract x i => match ev tm x with | .tup xs => .val (i < xs.length) (xs.getD i .any) | _ => .stuck
  | .makeFunc (.func g) first caps => if first.size = 0 then .val True (.clo g (caps.toList.map (ev tm))) else .stuck
  | .slice t x lo hi mx => match mx, ev tm x with
    | some m, .sl z xs => cutR T tm t z lo hi m
    | _, _ => onT T t fun ti => sliceR T tm ti (ev tm x) lo hi mx
  | .convert s d x => convR T S s d (ev tm x)
  | .alloc t => onT T t fun ti => .new True ⟨ti.zs.length, [ti.zav]⟩ (fun i => .ref i ti.zs.length 0 0)
  | .box _ x => .new ((ev tm x).ok = true ∧ 0 < (ev tm x).cells.length) ⟨(ev tm x).cells.length, [ev tm x]⟩ (fun i => .ref i (ev tm x).cells.length 0 0)
  | .makeSlice t l c => makeR T t (ev tm l) (ev tm c)
  | .buildSlice t len parts => buildSliceR T tm t len parts
  | .build t parts => buildR T tm t parts
  | .call c => callR T tm S c
  | _ => .stuck
section
variable {P : Program} {ok : Nat → Prop} {w : World} {μ : Nat → Nat} {S : Store} {tm : List AV} {ρ : Operand → Value}
theorem slice_sl_sound {t e : TypeId} {ti te : TI} (ht : tiOf P t = some ti) (hs : ti.sh = .slice e) (he : tiOf P e = some te) {z : Nat} {xs : List D} {u : Value} (hx : Rep ok w μ S (.sl z xs) u) (lo hi : Option Value) (l h : Int)
    (hlo : (lo = none ∧ l = 0) ∨ ∃ k, lo = some (.int k l)) (hhi : (hi = none ∧ h = xs.length) ∨ ∃ k, hi = some (.int k h)) (h0 : 0 ≤ l) (h1 : l ≤ h) (h2 : h ≤ xs.length) (hz : te.zs.length = z) :
    ∃ r, (Instr.sliceAt t u lo hi none).run P w = .ok r w ∧ Rep ok w μ S (.sl z ((xs.take h.toNat).drop l.toNat)) r := by
  obtain ⟨_, d, _, hd, _, _, _, _, hsh, _⟩ := ti_spec ht
  rw [hs] at hsh
  obtain rfl := shOf_slice hsh
  cases hx with
  | sl _ _ _ hx =>
    cases hx with
    | sl _ _ n A c ad f hn hc hA hz0 hzz h1' h2' =>
      subst hn
      have hrun : (Instr.sliceAt t (.slice A xs.length c) lo hi none).run P w = .ok (.slice (if c = l.toNat then A else A.map (·.add (l.toNat * z))) (h.toNat - l.toNat) (c - l.toNat)) w := by
        rcases hlo with ⟨rfl, rfl⟩ | ⟨k, rfl⟩ <;> rcases hhi with ⟨rfl, rfl⟩ | ⟨k', rfl⟩
        · simp [Instr.sliceAt, Instr.slice, Instr.sliceBounds, run_underlying w hd, run_sizeOf w he, hz]
        · have a1 : h ≤ (c : Int) := by omega
          simp [Instr.sliceAt, Instr.slice, Instr.sliceBounds, Instr.sliceBound, asIntOf, run_underlying w hd, run_sizeOf w he, hz, h1, a1]
        · have a1 : l ≤ (xs.length : Int) := by omega
          simp [Instr.sliceAt, Instr.slice, Instr.sliceBounds, Instr.sliceBound, asIntOf, run_underlying w hd, run_sizeOf w he, hz, h0, a1]
        · have a1 : h ≤ (c : Int) := by omega
          have a2 : 0 ≤ h := by omega
          have a3 : l ≤ (h.toNat : Int) := by omega
          have a4 : l ≤ max h 0 := by omega
          simp [Instr.sliceAt, Instr.slice, Instr.sliceBounds, Instr.sliceBound, asIntOf, run_underlying w hd, run_sizeOf w he, hz, h0, a1, a2, a3, a4]
      refine ⟨_, hrun, .sl _ _ _ (.sl _ _ _ _ _ (ad.add (l.toNat * z)) (fun i j => f (l.toNat + i) j) (by simp; omega) (by simp; omega) ?_ hz0 ?_ ?_ ?_)⟩
      · intro hne
        have hlt : l.toNat < h.toNat := by
          rcases Nat.lt_or_ge l.toNat h.toNat with hh | hh
          · exact hh
          · exact absurd (List.drop_eq_nil_of_le (by simp; omega)) hne
        obtain ⟨e1, e2, e3⟩ := hA (by intro e; simp [e] at h2; omega)
        subst e1
        rw [if_neg (by omega)]
        exact ⟨rfl, by rw [add_block]; exact e2, by unfold Addr.add; split <;> simp [e3]⟩
      all_goals
        have hget : ∀ (i : Nat) (x : D), ((xs.take h.toNat).drop l.toNat)[i]? = some x → xs[l.toNat + i]? = some x := by
          intro i x hi
          rw [List.getElem?_drop, List.getElem?_take] at hi
          split at hi
          · exact hi
          · cases hi
      · intro i x hi; exact hzz _ x (hget i x hi)
      · intro i x j y hi hj
        have hne : xs ≠ [] := by intro e; have := hget i x hi; simp [e] at this
        rw [add_add _ _ _ (hA hne).2.2, ← Nat.add_assoc, ← Nat.add_mul]
        exact h1' _ x j y (hget i x hi) hj
      · intro i x j y hi hj
        exact h2' _ x j y (hget i x hi) hj
theorem slice_own_sound {t e : TypeId} {ti te : TI} (ht : tiOf P t = some ti) (hs : ti.sh = .slice e) (he : tiOf P e = some te) {i z off len : Nat} {u : Value} (hx : Rep ok w μ S (.own i z off len) u) (lo hi : Option Value) (l h : Int)
    (hlo : (lo = none ∧ l = 0) ∨ ∃ k, lo = some (.int k l)) (hhi : (hi = none ∧ h = len) ∨ ∃ k, hi = some (.int k h)) (h0 : 0 ≤ l) (h1 : l < h) (h2 : h ≤ len) (hz : te.zs.length = z) :
    ∃ r, (Instr.sliceAt t u lo hi none).run P w = .ok r w ∧ Rep ok w μ S (.own i z (off + l.toNat) (h.toNat - l.toNat)) r := by
  obtain ⟨_, d, _, hd, _, _, _, _, hsh, _⟩ := ti_spec ht
  rw [hs] at hsh
  obtain rfl := shOf_slice hsh
  cases hx with
  | own0 => omega
  | own _ _ _ _ c cs ty hi' hl hc hb hsz =>
    have a0 : ¬ c = l.toNat := by omega
    have hrun : (Instr.sliceAt t (.slice (some ⟨μ i, off * z, none⟩) len c) lo hi none).run P w = .ok (.slice (some ⟨μ i, (off + l.toNat) * z, none⟩) (h.toNat - l.toNat) (c - l.toNat)) w := by
      have ea : (⟨μ i, off * z, none⟩ : Addr).add (l.toNat * z) = ⟨μ i, (off + l.toNat) * z, none⟩ := by rw [Addr.add_lit, Nat.add_mul]
      rcases hlo with ⟨rfl, rfl⟩ | ⟨k, rfl⟩ <;> rcases hhi with ⟨rfl, rfl⟩ | ⟨k', rfl⟩
      · have a5 : ¬ c = 0 := by omega
        simp [Instr.sliceAt, Instr.slice, Instr.sliceBounds, run_underlying w hd, run_sizeOf w he, hz, a5, Addr.add_zero']
      · have a1 : h ≤ (c : Int) := by omega
        have a2 : 0 ≤ h := by omega
        have a5 : ¬ c = 0 := by omega
        simp [Instr.sliceAt, Instr.slice, Instr.sliceBounds, Instr.sliceBound, asIntOf, run_underlying w hd, run_sizeOf w he, hz, a1, a2, a5, Addr.add_zero']
      · have a1 : l ≤ (len : Int) := by omega
        simp [Instr.sliceAt, Instr.slice, Instr.sliceBounds, Instr.sliceBound, asIntOf, run_underlying w hd, run_sizeOf w he, hz, h0, a1, a0, ea]
      · have a1 : h ≤ (c : Int) := by omega
        have a2 : 0 ≤ h := by omega
        have a3 : l ≤ (h.toNat : Int) := by omega
        have a4 : l ≤ max h 0 := by omega
        simp [Instr.sliceAt, Instr.slice, Instr.sliceBounds, Instr.sliceBound, asIntOf, run_underlying w hd, run_sizeOf w he, hz, h0, a1, a2, a3, a4, a0, ea]
    refine ⟨_, hrun, .own i z _ _ _ cs ty hi' (by omega) (by omega) hb (Nat.le_trans (Nat.mul_le_mul_right _ (by omega)) hsz)⟩
end
end
section
section
variable {P : Program} {ok : Nat → Prop} {w : World} {μ : Nat → Nat} {S : Store} {tm : List AV} {ρ : Operand → Value}
theorem onT_val {T : TypeId → Option TI} {t : TypeId} {f : TI → OpR} {φ : Prop} {v : AV} (h : onT T t f = .val φ v) : ∃ ti, T t = some ti ∧ f ti = .val φ v := by
  unfold onT at h
  split at h
  · exact ⟨_, by assumption, h⟩
  · cases h
theorem bnd_spec (hev : ∀ x, Rep ok w μ S (ev tm x) (ρ x)) {d : Int} {o : Option Operand} {n : Int} (h : bnd tm d o = some n) : (o.map ρ = none ∧ n = d) ∨ ∃ k, o.map ρ = some (.int k n) := by
  cases o with
  | none => simp [bnd] at h; exact .inl ⟨rfl, h.symm⟩
  | some x =>
    simp only [bnd] at h
    split at h
    · rename_i k m hx
      cases h
      have := hev x
      rw [hx] at this
      cases hr : ρ x with
      | int k' m' => rw [hr] at this; cases this; exact .inr ⟨k, by simp [hr]⟩
      | _ => rw [hr] at this; cases this
    · cases h
theorem slice_sound (hev : ∀ x, Rep ok w μ S (ev tm x) (ρ x)) {t : TypeId} {ti : TI} (ht : tiOf P t = some ti) {x : Operand} {lo hi mx : Option Operand} {φ : Prop} {v : AV} (hr : sliceR (tiOf P) tm ti (ev tm x) lo hi mx = .val φ v) (hφ : φ) :
    ∃ r, (Instr.sliceAt t (ρ x) (lo.map ρ) (hi.map ρ) (mx.map ρ)).run P w = .ok r w ∧ Rep ok w μ S v r := by
  have hx := hev x
  unfold sliceR at hr
  split at hr
  · rename_i e hs
    split at hr
    · rename_i te he
      split at hr
      · rename_i z xs hxe
        rw [hxe] at hx
        split at hr
        · rename_i l h hl hh
          injection hr with e1 e2
          subst e1; subst e2
          obtain ⟨h0, h1, h2, h3⟩ := hφ
          exact slice_sl_sound ht hs he hx _ _ l h (bnd_spec hev hl) (bnd_spec hev hh) h0 h1 h2 h3
        · cases hr
      · rename_i i z off len hxe
        rw [hxe] at hx
        split at hr
        · rename_i l h hl hh
          injection hr with e1 e2
          subst e1; subst e2
          obtain ⟨h0, h1, h2, h3⟩ := hφ
          exact slice_own_sound ht hs he hx _ _ l h (bnd_spec hev hl) (bnd_spec hev hh) h0 h1 h2 h3
        · cases hr
      · rename_i i z off len m hxe
        rw [hxe] at hx
        split at hr
        · rename_i l h m' hl hh hm
          injection hr with e1 e2
          subst e1; subst e2
          obtain ⟨rfl, rfl, rfl, h3, hsome⟩ := hφ
          obtain ⟨_, d, _, hd, _, _, _, _, hsh, _⟩ := ti_spec ht
          rw [hs] at hsh
          obtain rfl := shOf_slice hsh
          have hb : ∀ {o : Option Operand} {n : Int}, bnd tm 0 o = some n → (o.map ρ = none ∧ n = 0) ∨ ∃ k, o.map ρ = some (.int k n) := fun h => bnd_spec hev h
          obtain ⟨km, hkm⟩ : ∃ k, Option.map ρ (some m) = some (.int k len) := by
            rcases hb hm with ⟨h, _⟩ | h
            · simp at h
            · exact h
          obtain ⟨kh, eh⟩ : ∃ k, Option.map ρ hi = some (.int k len) := by
            rcases hb hh with ⟨h, _⟩ | h
            · cases hi <;> simp at h hsome
            · exact h
          rw [hkm, eh]
          generalize ρ x = u at hx
          cases hx with
          | own0 _ _ _ A hi' =>
            refine ⟨.slice A 0 0, ?_, .own0 i z off A hi'⟩
            rcases hb hl with ⟨el, _⟩ | ⟨k, el⟩ <;> rw [el]
            · simp [Instr.sliceAt, Instr.slice, Instr.sliceBounds, Instr.sliceBound, asIntOf, run_underlying w hd, run_sizeOf w he, h3]
            · simp [Instr.sliceAt, Instr.slice, Instr.sliceBounds, Instr.sliceBound, asIntOf, run_underlying w hd, run_sizeOf w he, h3]
          | own _ _ _ _ c cs ty hi' hl0 hc hbk hsz =>
            refine ⟨.slice (some ⟨μ i, off * z, none⟩) len len, ?_, .own i z off len len cs ty hi' hl0 (Nat.le_refl _) hbk (Nat.le_trans (Nat.mul_le_mul_right _ (by omega)) hsz)⟩
            have a1 : (len : Int) ≤ (c : Int) := by omega
            have a2 : ¬ len = 0 := by omega
            rcases hb hl with ⟨el, _⟩ | ⟨k, el⟩ <;> rw [el]
            · simp [Instr.sliceAt, Instr.slice, Instr.sliceBounds, Instr.sliceBound, asIntOf, run_underlying w hd, run_sizeOf w he, h3, hc, a2, Addr.add_zero']
            · simp [Instr.sliceAt, Instr.slice, Instr.sliceBounds, Instr.sliceBound, asIntOf, run_underlying w hd, run_sizeOf w he, h3, hc, a2, Addr.add_zero']
        · cases hr
      · cases hr
    · cases hr
  · cases hr
theorem build_fill {offs : List Nat} {places : Array (Nat × Nat)} (hp : ∀ (i off : Nat), offs[i]? = some off → places[i]? = some (off, 1)) (hev : ∀ x, Rep ok w μ S (ev tm x) (ρ x)) :
    ∀ (parts : List (Nat × Operand)) (cs cs' : List AV) (vs : Array Value), fillR offs tm cs parts = some cs' → vs.size = cs.length → (∀ x ∈ cs, x.scalar = true) → (∀ (j : Nat) (x : AV) (v : Value), cs[j]? = some x → vs[j]? = some v → Rep ok w μ S x v) →
      ∃ vs', Instr.fill (places[·]?) vs (parts.map fun p => (p.1, ρ p.2)) = some vs' ∧ vs'.size = cs'.length ∧ (∀ x ∈ cs', x.scalar = true) ∧ (∀ (j : Nat) (x : AV) (v : Value), cs'[j]? = some x → vs'[j]? = some v → Rep ok w μ S x v)
  | [], cs, cs', vs, h, hl, hs, hr => by
    simp only [fillR, Option.some.injEq] at h
    subst h
    exact ⟨vs, rfl, hl, hs, hr⟩
  | (i, x) :: parts, cs, cs', vs, h, hl, hs, hr => by
    simp only [fillR] at h
    split at h
    · rename_i off hoff
      split at h
      · rename_i hc
        simp only [Bool.and_eq_true, decide_eq_true_eq] at hc
        have h1 := (hev x).oneC hc.1
        have ih := build_fill hp hev parts (cs.set off (ev tm x)) cs' (vs.setIfInBounds off (ρ x)) h (by simpa using hl) ?_ ?_
        · obtain ⟨vs', hf, rest⟩ := ih
          refine ⟨vs', ?_, rest⟩
          simp only [List.map_cons, Instr.fill, hp i off hoff, h1]
          rw [if_neg (by simp; omega)]
          simpa using hf
        · intro y hy
          rcases List.mem_or_eq_of_mem_set hy with hy | rfl
          · exact hs y hy
          · exact hc.1
        · intro j y v hj hv
          rw [List.getElem?_set] at hj
          split at hj
          · rename_i e; subst e
            rw [if_pos hc.2] at hj
            cases hj
            rw [Array.getElem?_setIfInBounds_self_of_lt (by omega)] at hv
            cases hv
            exact hev x
          · rename_i e
            rw [Array.getElem?_setIfInBounds_ne e] at hv
            exact hr j y v hj hv
      · cases h
    · cases h
end
end
section
section
variable {P : Program} {ok : Nat → Prop} {w : World} {μ : Nat → Nat} {S : Store} {tm : List AV} {ρ : Operand → Value}
theorem run_mapM_list {α β : Type} (f : α → Sem β) (g : α → β) (w : World) : ∀ (l : List α), (∀ x ∈ l, (f x).run P w = .ok (g x) w) → (l.mapM f).run P w = .ok (l.map g) w
  | [], _ => by simp
  | x :: l, h => by
    have ih := run_mapM_list f g w l (fun y hy => h y (by simp [hy]))
    simp [List.mapM_cons, h x (by simp), ih]
theorem places_run {fs : Array Field} {n : Nat} (hoffs : fs.toList.map (·.offset) = List.range n) (hsz : ∀ f ∈ fs.toList, ∃ i, P.info? f.type = some i ∧ i.size = 1) :
    (fs.mapM fun f => do pure (f.offset, ← Go.sizeOf f.type) : Sem (Array (Nat × Nat))).run P w = .ok ((List.range n).map fun k => (k, 1)).toArray w := by
  rw [← Array.toArray_toList (xs := fs), List.mapM_toArray]
  rw [Sem.run_map, run_mapM_list (P := P) _ (fun f : Field => (f.offset, 1)) w fs.toList ?_]
  · simp only [Result.andThen_ok]
    rw [← hoffs, List.map_map]
    rfl
  · intro f hf
    obtain ⟨i, hi, h1⟩ := hsz f hf
    simp [Go.sizeOf, run_typeInfo w hi, h1]
theorem build_sound (hev : ∀ x, Rep ok w μ S (ev tm x) (ρ x)) {t : TypeId} {parts : Array (Nat × Operand)} {φ : Prop} {v : AV} (hr : buildR (tiOf P) tm t parts = .val φ v) (hφ : φ) :
    ∃ r, (Instr.build t (parts.map fun (i, x) => (i, ρ x))).run P w = .ok r w ∧ Rep ok w μ S v r := by
  unfold buildR at hr
  split at hr
  · rename_i ti ht
    obtain ⟨_, d, _, hd, _, _, _, _, hsh, _, hone, _⟩ := ti_spec ht
    split at hr
    · rename_i offs hs
      rw [hs] at hsh
      obtain ⟨fs, rfl, hoffs, hsz⟩ := shOf_struct hsh
      split at hr
      · rename_i hrange
        split at hr
        · rename_i cs hf
          injection hr with e1 e2
          subst e2
          have hp : ∀ (i off : Nat), offs[i]? = some off → ((List.range ti.zs.length).map fun k => (k, 1)).toArray[i]? = some (off, 1) := by
            intro i off h
            rw [hrange] at h
            have h' := h
            rw [List.getElem?_eq_some_iff] at h
            obtain ⟨hl, e⟩ := h
            simp at e hl
            subst e
            simp [hl]
          obtain ⟨vs', hfill, hl, hsc, hrep⟩ := build_fill hp hev parts.toList (ti.zs.map .prim) cs ti.zs.toArray hf (by simp) (by simp [AV.scalar])
            (fun j x v hj hv => by
              rw [List.getElem?_map, Option.map_eq_some_iff] at hj
              obtain ⟨u, hu, rfl⟩ := hj
              have : u = v := by simpa [hu] using hv
              subst this
              exact .prim u (hone u (List.mem_of_getElem? hu)))
          have hparts : (parts.map fun (i, x) => (i, ρ x)).toList = parts.toList.map fun p => (p.1, ρ p.2) := by simp
          have hzc : (zval ti).cells = ti.zs.toArray := zval_cells ht
          have hpl := places_run (P := P) (w := w) (fs := fs) (n := ti.zs.length) (by rw [hoffs, hrange]) hsz
          refine ⟨.agg vs', ?_, ?_⟩
          · simp only [Instr.build, Sem.run_bind, run_zeroValue w ht, Result.andThen_ok, run_underlying w hd, hpl, hparts, hzc, hfill, Sem.run_pure]
          · have := Rep.agg (ok := ok) (w := w) (μ := μ) (S := S) cs vs'.toList (by simpa using hl) hsc (fun j x v hj hv => hrep j x v hj (by simpa using hv))
            simpa using this
        · cases hr
      · cases hr
    · cases hr
  · cases hr
theorem lenOp_sound {t ty : TypeId} {x : AV} {u : Value} (hx : Rep ok w μ S x u) {φ : Prop} {v : AV} (hr : lenOpR (tiOf P) t x = .val φ v) :
    ∃ r, (Builtin.len_ #[t] ty #[u]).run P w = .ok r w ∧ Rep ok w μ S v r := by
  unfold lenOpR at hr
  split at hr
  · rename_i ti ht
    split at hr
    · cases hr
    · rename_i hs hn
      refine len_sound ht (.inl ⟨_, hs⟩) hx hr (fun _ s hxs => ?_) (fun h2 => ?_)
      · exact hn s hxs
      · rw [hs] at h2; cases h2
    · rename_i s hs
      exact len_sound ht (.inr hs) hx hr (fun ⟨e, h2⟩ => by rw [hs] at h2; cases h2) (fun _ => ⟨_, rfl⟩)
    · cases hr
  · cases hr
theorem max_sound {lt : Bool} {x y : AV} {ux uy : Value} (hx : Rep ok w μ S x ux) (hy : Rep ok w μ S y uy) {φ : Prop} {v : AV} (hr : maxR lt x y = .val φ v) :
    ∃ r, (if lt then Builtin.min2 ux uy else Builtin.max2 ux uy).run P w = .ok r w ∧ Rep ok w μ S v r := by
  unfold maxR at hr
  split at hr
  · cases hx; cases hy
    injection hr with e1 e2; subst e2
    cases lt
    · exact ⟨_, by simp [Builtin.max2], .prim _ rfl⟩
    · exact ⟨_, by simp [Builtin.min2], .prim _ rfl⟩
  · cases hr
/-- Reading operations: the world stays as it is. -/
theorem val_sound (rs : RelS ok w μ S) (hev : ∀ x, Rep ok w μ S (ev tm x) (ρ x)) (o : Oper) {φ : Prop} {v : AV} (h : opR (tiOf P) tm S o.op = .val φ v) (hφ : φ) :
    ∃ r, (execOp ρ o).run P w = .ok (.value r) w ∧ Rep ok w μ S v r := by
  obtain ⟨dst, op, type, pos, after, guard⟩ := o
  have fin : ∀ {s : Sem Value}, (∃ r, s.run P w = .ok r w ∧ Rep ok w μ S v r) → ∃ r, (do pure (.value (← s)) : Sem Next).run P w = .ok (.value r) w ∧ Rep ok w μ S v r := by
    rintro s ⟨r, h1, h2⟩
    exact ⟨r, by simp [h1], h2⟩
  simp only at h
  cases op <;> simp only [opR] at h <;> try (cases h; done)
  case move x => injection h with e1 e2; subst e2; exact ⟨_, by simp [execOp], hev x⟩
  case assign x => injection h with e1 e2; subst e2; exact ⟨_, by simp [execOp], hev x⟩
  case pick c x y =>
    split at h
    · rename_i b hb
      have hc := hev c
      rw [hb] at hc
      generalize hρ : ρ c = uc at hc
      cases hc
      injection h with e1 e2; subst e2
      refine ⟨if b then ρ x else ρ y, by simp [execOp, hρ, asBool], ?_⟩
      cases b
      · exact hev y
      · exact hev x
    · cases h
  case load t x => obtain ⟨ti, ht, hr⟩ := onT_val h; exact fin (load_sound rs ht (hev x) hr hφ)
  case store t x y =>
    obtain ⟨ti, ht, hr⟩ := onT_val h
    unfold storeR at hr
    split at hr <;> try (cases hr; done)
    split at hr <;> cases hr
  case fieldAddr t x f => obtain ⟨ti, ht, hr⟩ := onT_val h; exact fin (field_sound ht (hev x) hr hφ)
  case indexAddr t x ix => obtain ⟨ti, ht, hr⟩ := onT_val h; exact fin (index_sound ht (hev x) (hev ix) hr hφ)
  case binOp op t x y _ => exact fin (binT_sound rfl (hev x) (hev y) h hφ)
  case unOp op t x =>
    split at h
    · rename_i b hb
      have hc := hev x
      rw [hb] at hc
      generalize hρ : ρ x = uc at hc
      cases hc
      injection h with e1 e2; subst e2
      exact ⟨_, by simp [execOp, hρ, Op.unary], .prim _ rfl⟩
    · rename_i k n hb
      have hc := hev x
      rw [hb] at hc
      generalize hρ : ρ x = uc at hc
      cases hc
      injection h with e1 e2; subst e2
      exact ⟨.int k (k.wrap (-n)), by simp [execOp, hρ, Op.unary, Op.intArith], .prim _ rfl⟩
    · cases h
  case nilCheck x =>
    have hc := hev x
    split at h
    · rename_i hb
      rw [hb] at hc
      generalize hρ : ρ x = uc at hc
      cases hc
      injection h with e1 e2; subst e2
      exact ⟨_, by simp [execOp, hρ], .ref _ _ _ _ (by assumption)⟩
    · rename_i xs hb
      rw [hb] at hc
      generalize hρ : ρ x = uc at hc
      injection h with e1 e2; subst e2
      have hc' := hc
      cases hc
      exact ⟨_, by simp [execOp, hρ], hc'⟩
    · cases h
  case extract x i =>
    split at h
    · rename_i xs hb
      have hc := hev x
      rw [hb] at hc
      generalize hρ : ρ x = uc at hc
      injection h with e1 e2; subst e1; subst e2
      cases hc with
      | tup _ vs hl hr =>
        have hv : vs[i]? = some (vs[i]'(by omega)) := List.getElem?_eq_getElem (by omega)
        refine ⟨vs[i]'(by omega), by simp [execOp, hρ, Instr.extract, show i < vs.length by omega], hr i _ _ ?_ hv⟩
        simp [List.getD, List.getElem?_eq_getElem hφ]
    · cases h
  case makeFunc fn first caps =>
    cases fn <;> simp only at h <;> try (cases h; done)
    rename_i g
    split at h
    · rename_i h0
      injection h with e1 e2; subst e2
      have hf : first = #[] := by simpa using h0
      subst hf
      refine ⟨.func (.func g) #[] (caps.map ρ), by simp [execOp, Instr.makeFunc], ?_⟩
      have := Rep.clo (ok := ok) (w := w) (μ := μ) (S := S) g (caps.toList.map (ev tm)) (caps.toList.map ρ) (by simp) (fun j x v hj hv => by
        rw [List.getElem?_map, Option.map_eq_some_iff] at hj hv
        obtain ⟨y, hy, rfl⟩ := hj
        obtain ⟨y', hy', rfl⟩ := hv
        rw [hy] at hy'; cases hy'
        exact hev y)
      have e : (caps.toList.map ρ).toArray = caps.map ρ := by apply Array.ext'; simp
      rw [e] at this
      exact this
    · cases h
  case slice t x lo hi mx =>
    split at h
    · unfold cutR at h
      (repeat' split at h) <;> cases h
    · obtain ⟨ti, ht, hr⟩ := onT_val h; exact fin (slice_sound hev ht hr hφ)
  case convert s d x => exact fin (conv_sound rs (hev x) h hφ)
  case alloc t => obtain ⟨ti, ht, hr⟩ := onT_val h; cases hr
  case makeSlice t l c =>
    unfold makeR at h
    split at h <;> try (cases h; done)
    split at h <;> try (cases h; done)
    split at h <;> try (cases h; done)
    split at h <;> cases h
  case buildSlice t len parts =>
    unfold buildSliceR at h
    split at h <;> try (cases h; done)
    split at h <;> try (cases h; done)
    split at h <;> cases h
  case build t parts => exact fin (build_sound hev h hφ)
  case call c =>
    obtain ⟨callee, args, ats⟩ := c
    unfold callR at h
    simp only at h
    split at h
    · rename_i x t ha hat
      obtain rfl : args = #[x] := by rw [← Array.toList_inj]; simpa using ha
      obtain rfl : ats = #[t] := by rw [← Array.toList_inj]; simpa using hat
      have := lenOp_sound (ty := type) (hev x) h
      obtain ⟨r, h1, h2⟩ := this
      exact ⟨r, by simp [execOp, resolve, invoke, builtin, h1], h2⟩
    · split at h
      · unfold appendR at h
        split at h <;> try (cases h; done)
        split at h <;> try (cases h; done)
        split at h <;> try (cases h; done)
        split at h <;> try (cases h; done)
        split at h <;> try (cases h; done)
        split at h <;> cases h
      · cases h
    · rename_i x y ha
      obtain rfl : args = #[x, y] := by rw [← Array.toList_inj]; simpa using ha
      obtain ⟨r, h1, h2⟩ := max_sound (P := P) (hev x) (hev y) h
      simp only [if_true, if_false, Bool.false_eq_true] at h1
      exact ⟨r, by simp [execOp, resolve, invoke, builtin, Builtin.max_, h1], h2⟩
    · rename_i x y ha
      obtain rfl : args = #[x, y] := by rw [← Array.toList_inj]; simpa using ha
      obtain ⟨r, h1, h2⟩ := max_sound (P := P) (hev x) (hev y) h
      simp only [if_true, if_false, Bool.false_eq_true] at h1
      exact ⟨r, by simp [execOp, resolve, invoke, builtin, Builtin.min_, h1], h2⟩
    · split at h <;> cases h
    · cases h
end
end
section
theorem mod_alloc (w : World) (o : Obj) : Mod w (fun _ => False) (w.alloc o) :=
  ⟨rfl, rfl, rfl, by simp, fun b hb _ => Below.heap_alloc w o b hb, fun b cs ty fz h => ⟨cs, by rw [Below.heap_alloc w o b (Array.getElem?_eq_some_iff.1 h).1]; exact h, rfl⟩⟩
theorem mod_drew (w : World) : Mod w (fun _ => False) w.drew := ⟨rfl, rfl, rfl, Nat.le_refl _, fun _ _ _ => rfl, fun b cs ty fz h => ⟨cs, h, rfl⟩⟩
theorem mod_drew_alloc (w : World) (o : Obj) : Mod w (fun _ => False) (w.drew.alloc o) := (mod_drew w).trans (mod_alloc w.drew o) (fun _ _ h => h)
/-- What an operation that makes an object leaves. -/
def Made (P : Program) (ok : Nat → Prop) (s : Sem Value) (w : World) (μ : Nat → Nat) (S : Store) (ob : AObj) (mk : Nat → AV) : Prop :=
  ∃ r w', s.run P w = .ok r w' ∧ Mod w (fun _ => False) w' ∧ 0 < ob.z ∧ (∀ x ∈ ob.es, x.cells.length = ob.z ∧ ∀ y ∈ x.cells, y.scalar = true) ∧
    (ob.es ≠ [] → ∃ cs ty, w'.heap[w.heap.size]? = some (.cells cs ty (0, 0)) ∧ ob.es.length * ob.z ≤ cs.size ∧
      ∀ (k : Nat) (x : AV) (j : Nat) (y : AV), ob.es[k]? = some x → x.cells[j]? = some y → ∃ v, cs[k * ob.z + j]? = some v ∧ Rep ok w μ S y v) ∧
    ∀ (id : Nat) (μ2 : Nat → Nat) (S2 : Store), id < S2.length → μ2 id = w.heap.size → Rep ok w' μ2 S2 (mk id) r
section
variable {P : Program} {ok : Nat → Prop} {w : World} {μ : Nat → Nat} {S : Store} {tm : List AV} {ρ : Operand → Value}
theorem heap_new (w : World) (o : Obj) : (w.alloc o).heap[w.heap.size]? = some o := heap_alloc_new w o
theorem zav_cells {t : TypeId} {ti : TI} (ht : tiOf P t = some ti) : ti.zav.cells.length = ti.zs.length ∧ (∀ y ∈ ti.zav.cells, y.scalar = true) ∧ ∀ (j : Nat) (y : AV), ti.zav.cells[j]? = some y → ∃ v, ti.zs[j]? = some v ∧ Rep ok w μ S y v := by
  obtain ⟨_, d, _, hd, _, _, h0, _, hsh, _, hone, h1⟩ := ti_spec ht
  unfold TI.zav
  cases ha : ti.agg with
  | true =>
    simp only [if_true, AV.cells, List.length_map, true_and]
    refine ⟨by simp [AV.scalar], ?_⟩
    intro j y hj
    rw [List.getElem?_map, Option.map_eq_some_iff] at hj
    obtain ⟨v, hv, rfl⟩ := hj
    exact ⟨v, hv, .prim v (hone v (List.mem_of_getElem? hv))⟩
  | false =>
    obtain ⟨v, hv⟩ : ∃ v, ti.zs = [v] := by
      have hl := h1 ha
      cases hzz : ti.zs with
      | nil => simp [hzz] at hl
      | cons v r => cases r with
        | nil => exact ⟨v, rfl⟩
        | cons => simp [hzz] at hl
    simp only [hv, Bool.false_eq_true, if_false, List.headD_cons, AV.cells, List.length_singleton, true_and]
    refine ⟨by simp [AV.scalar], ?_⟩
    intro j y hj
    cases j with
    | zero => simp at hj; subst hj; exact ⟨v, rfl, .prim v (hone v (by simp [hv]))⟩
    | succ j => simp at hj
theorem alloc_made {t : TypeId} {ti : TI} (ht : tiOf P t = some ti) : Made P ok (Instr.alloc t true (.tuple #[])) w μ S ⟨ti.zs.length, [ti.zav]⟩ (fun i => .ref i ti.zs.length 0 0) := by
  obtain ⟨_, d, _, hd, _, _, h0, _⟩ := ti_spec ht
  obtain ⟨z1, z2, z3⟩ := zav_cells (w := w) (μ := μ) (S := S) ht
  refine ⟨.pointer (some ⟨w.heap.size, 0, none⟩), w.alloc (.cells ti.zs.toArray t), ?_, mod_alloc _ _, h0, ?_, ?_, ?_⟩
  · simp [Instr.alloc, run_zeroValue w ht, newVar, newRow, zval_cells ht]
  · intro x hx
    obtain rfl := List.mem_singleton.1 hx
    exact ⟨z1, z2⟩
  · intro _
    refine ⟨_, _, heap_new _ _, by simp, ?_⟩
    intro k x j y hk hj
    cases k with
    | zero =>
      simp at hk; subst hk
      obtain ⟨v, hv, hr⟩ := z3 j y hj
      exact ⟨v, by simpa using hv, hr⟩
    | succ k => simp at hk
  · intro id μ2 S2 hid hμ
    have := Rep.ref (ok := ok) (w := w.alloc (.cells ti.zs.toArray t)) (μ := μ2) (S := S2) id ti.zs.length 0 0 hid
    simpa [hμ] using this
theorem box_made {x : AV} {u : Value} (hx : Rep ok w μ S x u) (hok : x.ok = true) (h0 : 0 < x.cells.length) (t : TypeId) : Made P ok (Instr.box t u) w μ S ⟨x.cells.length, [x]⟩ (fun i => .ref i x.cells.length 0 0) := by
  obtain ⟨us, hu, hl, hr⟩ := hx.cellsOf hok
  have hsc : ∀ y ∈ x.cells, y.scalar = true := by
    rcases AV.agg_or x with ⟨xs, rfl⟩ | hc
    · cases hx with | agg _ vs hl hs h => exact hs
    · intro y hy
      rw [hc] at hy
      obtain rfl := List.mem_singleton.1 hy
      cases y with
      | agg xs =>
        exfalso
        have e := congrArg SizeOf.sizeOf hc
        simp [AV.cells] at e
        omega
      | _ => exact hok
  refine ⟨.pointer (some ⟨w.heap.size, 0, none⟩), w.alloc (.cells us.toArray t), ?_, mod_alloc _ _, h0, ?_, ?_, ?_⟩
  · simp [Instr.box, newVar, newRow, hu]
  · intro y hy
    obtain rfl := List.mem_singleton.1 hy
    exact ⟨rfl, hsc⟩
  · intro _
    refine ⟨_, _, heap_new _ _, by simp [hl], ?_⟩
    intro k y j y' hk hj
    cases k with
    | zero =>
      simp at hk; subst hk
      have hj' : j < us.length := by rw [hl]; exact (List.getElem?_eq_some_iff.1 hj).1
      exact ⟨us[j], by simp [hj'], hr j _ _ hj (List.getElem?_eq_getElem hj')⟩
    | succ k => simp at hk
  · intro id μ2 S2 hid hμ
    have := Rep.ref (ok := ok) (w := w.alloc (.cells us.toArray t)) (μ := μ2) (S := S2) id x.cells.length 0 0 hid
    simpa [hμ] using this
theorem own_new (w' : World) (n z : Nat) (cs : Array Value) (ty : TypeId) (c : Nat) (hc : n ≤ c) (hb : w'.heap[w.heap.size]? = some (.cells cs ty (0, 0))) (hs : c * z ≤ cs.size) (h0 : n = 0 → c = 0) :
    ∀ (id : Nat) (μ2 : Nat → Nat) (S2 : Store), id < S2.length → μ2 id = w.heap.size → Rep ok w' μ2 S2 (.own id z 0 n) (.slice (some ⟨w.heap.size, 0, none⟩) n c) := by
  intro id μ2 S2 hid hμ
  rcases Nat.eq_zero_or_pos n with h | h
  · rw [h, h0 h]
    exact .own0 _ _ _ _ hid
  · have := Rep.own (ok := ok) (w := w') (μ := μ2) (S := S2) id z 0 n c cs ty hid h hc (by rw [hμ]; exact hb) (by simpa using hs)
    simpa [hμ] using this
theorem make_made {t e : TypeId} {ti te : TI} (ht : tiOf P t = some ti) (hs : ti.sh = .slice e) (he : tiOf P e = some te) (n : Int) (h0 : 0 ≤ n) (hb : te.bytes * n ≤ 140737488355328) (h63 : n ≤ 9223372036854775807) :
    Made P ok (Instr.makeSlice t (.int .i64 n) (.int .i64 n)) w μ S ⟨te.zs.length, List.replicate n.toNat te.zav⟩ (fun i => .own i te.zs.length 0 n.toNat) := by
  obtain ⟨_, d, _, hd, _, _, _, _, hsh, _⟩ := ti_spec ht
  rw [hs] at hsh
  obtain rfl := shOf_slice hsh
  obtain ⟨ie, _, hie, _, hz, hsz, hpos, _, _, hby, _⟩ := ti_spec he
  obtain ⟨z1, z2, z3⟩ := zav_cells (w := w) (μ := μ) (S := S) he
  have hrun := run_make (P := P) w t e ie (zval te) hd hie hz .i64 .i64 n n h0 (Int.le_refl _) (by rw [hby]; omega) h63
  refine ⟨_, _, hrun, mod_alloc _ _, hpos, ?_, ?_, ?_⟩
  · intro x hx
    obtain rfl := List.eq_of_mem_replicate hx
    exact ⟨z1, z2⟩
  · intro _
    refine ⟨_, _, heap_new _ _, by simp [size_madeCells, hsz], ?_⟩
    intro k x j y hk hj
    obtain ⟨hk', rfl⟩ := List.getElem?_eq_some_iff.1 hk
    simp only [List.length_replicate] at hk'
    simp only [List.getElem_replicate] at hj
    obtain ⟨v, hv, hr⟩ := z3 j y hj
    refine ⟨v, ?_, hr⟩
    have hjl : j < te.zs.length := (List.getElem?_eq_some_iff.1 hv).1
    have hlt : k * te.zs.length + j < n.toNat * te.zs.length := by
      have := Nat.mul_le_mul_right te.zs.length (show k + 1 ≤ n.toNat by omega)
      rw [Nat.add_mul] at this; omega
    have hmod : (k * te.zs.length + j) % te.zs.length = j := by rw [Nat.mul_comm, Nat.mul_add_mod]; exact Nat.mod_eq_of_lt hjl
    simp only [madeCells, hsz, zval_cells he, Array.getElem?_map, List.size_toArray]
    rw [Array.getElem?_range, if_pos hlt]
    simp only [Option.map_some, hmod, Option.some.injEq]
    obtain ⟨_, hv'⟩ := List.getElem?_eq_some_iff.1 hv
    simp [hjl, hv']
  · exact own_new _ _ _ _ _ _ (Nat.le_refl _) (heap_new _ _) (by simp [size_madeCells, hsz]) (fun h => h)
theorem flat_len {s : Nat} : ∀ (vs : List Value), (∀ v ∈ vs, v.cells.size = s) → (vs.flatMap fun v => v.cells.toList).length = vs.length * s
  | [], _ => by simp
  | v :: vs, h => by
    have ih := flat_len vs (fun u hu => h u (by simp [hu]))
    have h0 : v.cells.toList.length = s := by simpa using h v (by simp)
    rw [List.flatMap_cons, List.length_append, ih, h0, List.length_cons, Nat.add_mul]
    omega
theorem zipIdx_of {parts : List (Nat × Operand)} {len : Nat} (h : parts.map (·.1) = List.range len) (ρ : Operand → Value) :
    parts.map (fun p => (p.1, ρ p.2)) = ((parts.map fun p => ρ p.2).zipIdx 0).map fun x => (x.2, x.1) := by
  have hl : parts.length = len := by simpa using congrArg List.length h
  apply List.ext_getElem?
  intro i
  simp only [List.getElem?_map, List.getElem?_zipIdx, Option.map_map]
  cases hi : parts[i]? with
  | none => simp
  | some p =>
    have : (parts.map (·.1))[i]? = some p.1 := by simp [hi]
    rw [h, List.getElem?_eq_some_iff] at this
    obtain ⟨hl', e⟩ := this
    simp at e
    simp [e]
theorem buildSlice_made (hev : ∀ x, Rep ok w μ S (ev tm x) (ρ x)) {t e : TypeId} {ti te : TI} (ht : tiOf P t = some ti) (hs : ti.sh = .slice e) (he : tiOf P e = some te) (len : Nat) (parts : Array (Nat × Operand))
    (h1 : parts.toList.map (·.1) = List.range len) (h2 : len * te.zs.length ≤ 16777216) (h3 : (parts.toList.map fun p => ev tm p.2).all (fun x => x.ok && x.cells.length == te.zs.length) = true) :
    Made P ok (Instr.buildSlice t len (parts.map fun (i, x) => (i, ρ x))) w μ S ⟨te.zs.length, parts.toList.map fun p => ev tm p.2⟩ (fun i => .own i te.zs.length 0 len) := by
  obtain ⟨_, d, _, hd, _, _, _, _, hsh, _⟩ := ti_spec ht
  rw [hs] at hsh
  obtain rfl := shOf_slice hsh
  obtain ⟨ie, _, hie, _, hz, hsz, hpos, _, _, hby, _⟩ := ti_spec he
  have hl : parts.toList.length = len := by simpa using congrArg List.length h1
  rw [List.all_eq_true] at h3
  have hcells : ∀ p ∈ parts.toList, ∃ us : List Value, (ρ p.2).cells = us.toArray ∧ us.length = te.zs.length ∧ (ev tm p.2).cells.length = te.zs.length ∧ ∀ (j : Nat) (y : AV) (v : Value), (ev tm p.2).cells[j]? = some y → us[j]? = some v → Rep ok w μ S y v := by
    intro p hp
    have := h3 _ (List.mem_map.2 ⟨p, hp, rfl⟩)
    simp only [Bool.and_eq_true, beq_iff_eq] at this
    obtain ⟨us, hu, hl, hr⟩ := (hev p.2).cellsOf this.1
    exact ⟨us, hu, by rw [hl, this.2], this.2, hr⟩
  have hsiz : ∀ v ∈ parts.toList.map (fun p => ρ p.2), v.cells.size = te.zs.length := by
    intro v hv
    obtain ⟨p, hp, rfl⟩ := List.mem_map.1 hv
    obtain ⟨us, hu, hl, _⟩ := hcells p hp
    rw [hu]; simpa using hl
  have hparts : (parts.map fun (i, x) => (i, ρ x)).toList = ((parts.toList.map fun p => ρ p.2).zipIdx 0).map fun x => (x.2, x.1) := by
    rw [← zipIdx_of h1 ρ]; simp
  have hscal : ∀ x ∈ parts.toList.map (fun p => ev tm p.2), x.cells.length = te.zs.length ∧ ∀ y ∈ x.cells, y.scalar = true := by
    intro x hx
    have h3' := h3 x hx
    obtain ⟨p, hp, rfl⟩ := List.mem_map.1 hx
    simp only [Bool.and_eq_true, beq_iff_eq] at h3'
    refine ⟨h3'.2, ?_⟩
    have hrep := hev p.2
    rcases AV.agg_or (ev tm p.2) with ⟨xs, hxs⟩ | hc
    · rw [hxs] at hrep ⊢
      generalize ρ p.2 = u at hrep
      cases hrep with | agg _ vs hl hs h => exact hs
    · intro y hy
      rw [hc] at hy
      obtain rfl := List.mem_singleton.1 hy
      cases hy' : ev tm p.2 with
      | agg xs =>
        exfalso
        rw [hy'] at hc
        have e := congrArg SizeOf.sizeOf hc
        simp [AV.cells] at e
        omega
      | _ => have := h3'.1; rw [hy'] at this; exact this
  rcases Nat.eq_zero_or_pos len with hz0 | hpos'
  · subst hz0
    have hnil : parts = #[] := by
      have : parts.toList = [] := List.eq_nil_of_length_eq_zero hl
      rw [← Array.toList_inj]; simpa using this
    subst hnil
    refine ⟨.slice (some ⟨w.heap.size, 0, none⟩) 0 0, w.alloc (.cells #[] e), ?_, mod_alloc _ _, hpos, by simp, by simp, fun id μ2 S2 hid _ => .own0 _ _ _ _ hid⟩
    simp [Instr.buildSlice, run_underlying w hd, run_sizeOf w he, Instr.fill, newRow, Array.range_zero']
  · have hfill := Go.Great.fill_whole hpos (parts.toList.map fun p => ρ p.2) ((Array.range (len * ie.size)).map ((zval te).cells[· % (zval te).cells.size]!)) hsiz (by simp [hsz, ← hl])
    have hrun := run_buildSlice (P := P) w t e len (parts.map fun (i, x) => (i, ρ x)) _ ie (zval te) hd hie hz (by rw [hsz]; omega) (by rw [hsz]; exact Nat.ne_of_gt (Nat.mul_pos hpos' hpos)) (by rw [hsz] at hfill ⊢; rw [hparts]; exact hfill)
    refine ⟨_, _, hrun, mod_alloc _ _, hpos, hscal, ?_, ?_⟩
    · intro _
      have hsize : ((parts.toList.map fun p => ρ p.2).flatMap fun v => v.cells.toList).length = len * te.zs.length := by
        rw [flat_len _ hsiz, List.length_map, hl]
      refine ⟨_, _, heap_new _ _, by simp only [List.size_toArray, hsize]; simp [← hl], ?_⟩
      intro k x j y hk hj
      rw [List.getElem?_map, Option.map_eq_some_iff] at hk
      obtain ⟨p, hp, rfl⟩ := hk
      obtain ⟨us, hu, hul, hcl, hr⟩ := hcells p (List.mem_of_getElem? hp)
      have hjl : j < te.zs.length := by rw [← hcl]; exact (List.getElem?_eq_some_iff.1 hj).1
      have hdiv : (k * te.zs.length + j) / te.zs.length = k := by
        rw [Nat.mul_comm, Nat.mul_add_div hpos, Nat.div_eq_of_lt hjl, Nat.add_zero]
      have hmod : (k * te.zs.length + j) % te.zs.length = j := by rw [Nat.mul_comm, Nat.mul_add_mod]; exact Nat.mod_eq_of_lt hjl
      refine ⟨us[j]'(by omega), ?_, hr j _ _ hj (List.getElem?_eq_getElem (by omega))⟩
      have e : (List.flatMap (fun v => v.cells.toList) (parts.toList.map fun p => ρ p.2)).toArray[k * te.zs.length + j]? = (List.flatMap (fun v => v.cells.toList) (parts.toList.map fun p => ρ p.2))[k * te.zs.length + j]? := by simp
      rw [e, Go.Great.flat_get hpos _ hsiz, hdiv, hmod]
      simp [hp, hu, hul, hjl]
    · refine own_new _ _ _ _ _ _ (Nat.le_refl _) (heap_new _ _) ?_ (fun h => h)
      have hsize : ((parts.toList.map fun p => ρ p.2).flatMap fun v => v.cells.toList).length = len * te.zs.length := by
        rw [flat_len _ hsiz, List.length_map, hl]
      simp [hsize]
theorem cut_made {t e : TypeId} {ti te : TI} (ht : tiOf P t = some ti) (hs : ti.sh = .slice e) (he : tiOf P e = some te) {z : Nat} {xs : List D} {u : Value} (hu : Rep ok w μ S (.sl z xs) u) (k k' : IntKind) :
    Made P ok (Instr.sliceAt t u none (some (.int k 0)) (some (.int k' 0))) w μ S ⟨te.zs.length, []⟩ (fun i => .own i te.zs.length 0 0) := by
  obtain ⟨_, d, _, hd, _, _, _, _, hsh, _⟩ := ti_spec ht
  rw [hs] at hsh
  obtain rfl := shOf_slice hsh
  obtain ⟨ie, _, hie, _, hz, hsz, hpos, _, _, hby, _⟩ := ti_spec he
  cases hu with
  | sl _ _ _ hx =>
    cases hx with
    | sl _ _ n A c ad f hn hc hA hz0 hzz h1' h2' =>
      have hrun : (Instr.sliceAt t (.slice A n c) none (some (.int k 0)) (some (.int k' 0))).run P w = .ok (.slice A 0 0) w := by
        simp [Instr.sliceAt, Instr.slice, Instr.sliceBounds, Instr.sliceBound, asIntOf, run_underlying w hd, run_sizeOf w he]
      refine ⟨_, _, hrun, Mod.refl _ _, hpos, fun x hx => by simp at hx, fun h => absurd rfl h, ?_⟩
      intro id μ2 S2 hid _
      exact .own0 _ _ _ _ hid
end
end
section
section
variable {P : Program} {ok : Nat → Prop} {w : World} {μ : Nat → Nat} {S : Store} {tm : List AV} {ρ : Operand → Value}
theorem D.av_cells (d : D) (h : ∀ y ∈ d.cells, y.scalar = true) : d.av.cells = d.cells.map D.av0 := by
  cases d <;> simp [D.av, D.av0, D.cells, AV.cells]
theorem D.av0_scalar {d : D} (h : d.scalar = true) : d.av0.scalar = true := by cases d <;> simp_all [D.av0, D.scalar, AV.scalar]
/-- The cells of what is appended, in memory. -/
structure Src (ok : Nat → Prop) (w : World) (μ : Nat → Nat) (S : Store) (z : Nat) (ys : List AV) (A : Option Addr) (news : List Value) : Prop where
  len : news.length = ys.length * z
  none : A = none → ys = []
  cell : ∀ ad, A = some ad → ∀ (j : Nat) (u : Value), news[j]? = some u → w.cell? (ad.add j) = some u
  one : ∀ u ∈ news, u.oneCell' = true
  rep : ∀ (k : Nat) (x : AV) (j : Nat) (y : AV), ys[k]? = some x → x.cells[j]? = some y → ∃ v, news[k * z + j]? = some v ∧ Rep ok w μ S y v
  siz : ∀ x ∈ ys, x.cells.length = z ∧ ∀ y ∈ x.cells, y.scalar = true
theorem src_mk {z : Nat} (hz : 0 < z) {ys : List AV} {A : Option Addr} (g : Nat → Nat → Value) (hnone : A = none → ys = []) (hsiz : ∀ x ∈ ys, x.cells.length = z ∧ ∀ y ∈ x.cells, y.scalar = true)
    (h : ∀ (k : Nat) (x : AV) (j : Nat) (y : AV), ys[k]? = some x → x.cells[j]? = some y → (∀ ad, A = some ad → w.cell? (ad.add (k * z + j)) = some (g k j)) ∧ Rep ok w μ S y (g k j)) :
    ∃ news, Src ok w μ S z ys A news := by
  have hdm : ∀ (t : Nat), t < ys.length * z → t / z < ys.length ∧ t % z < z ∧ t / z * z + t % z = t := by
    intro t ht
    exact ⟨Nat.div_lt_of_lt_mul (by rw [Nat.mul_comm]; exact ht), Nat.mod_lt _ hz, by rw [Nat.mul_comm]; exact Nat.div_add_mod t z⟩
  have hget : ∀ (t : Nat), t < ys.length * z → ∃ x y, ys[t / z]? = some x ∧ x.cells[t % z]? = some y := by
    intro t ht
    obtain ⟨h1, h2, _⟩ := hdm t ht
    have hx := hsiz _ (List.getElem_mem h1)
    exact ⟨_, _, List.getElem?_eq_getElem h1, List.getElem?_eq_getElem (by rw [hx.1]; exact h2)⟩
  refine ⟨(List.range (ys.length * z)).map fun t => g (t / z) (t % z), ⟨by simp, hnone, ?_, ?_, ?_, hsiz⟩⟩
  · intro ad hA j u hj
    rw [List.getElem?_map, Option.map_eq_some_iff] at hj
    obtain ⟨t, ht, rfl⟩ := hj
    obtain ⟨hlt, rfl⟩ := List.getElem?_eq_some_iff.1 ht
    simp only [List.getElem_range, List.length_range] at hlt ⊢
    obtain ⟨x, y, hx, hy⟩ := hget j hlt
    have := (h _ x _ y hx hy).1 ad hA
    rwa [(hdm j hlt).2.2] at this
  · intro u hu
    obtain ⟨t, ht, rfl⟩ := List.mem_map.1 hu
    rw [List.mem_range] at ht
    obtain ⟨x, y, hx, hy⟩ := hget t ht
    exact (h _ x _ y hx hy).2.one ((hsiz x (List.mem_of_getElem? hx)).2 y (List.mem_of_getElem? hy))
  · intro k x j y hk hj
    have hkl : k < ys.length := (List.getElem?_eq_some_iff.1 hk).1
    have hjl : j < z := by rw [← (hsiz x (List.mem_of_getElem? hk)).1]; exact (List.getElem?_eq_some_iff.1 hj).1
    have hlt : k * z + j < ys.length * z := by
      have := Nat.mul_le_mul_right z (show k + 1 ≤ ys.length by omega)
      rw [Nat.add_mul] at this; omega
    have hdiv : (k * z + j) / z = k := by rw [Nat.mul_comm, Nat.mul_add_div hz, Nat.div_eq_of_lt hjl, Nat.add_zero]
    have hmod : (k * z + j) % z = j := by rw [Nat.mul_comm, Nat.mul_add_mod]; exact Nat.mod_eq_of_lt hjl
    exact ⟨g k j, by simp [hlt, hdiv, hmod], (h k x j y hk hj).2⟩
theorem src_spec (rs : RelS ok w μ S) {z : Nat} (hz : 0 < z) {y : AV} {u : Value} (hy : Rep ok w μ S y u) {ψ : Prop} {ys : List AV} (h : srcR S z y = some (ψ, ys)) (hψ : ψ) :
    ∃ A c news, u = .slice A ys.length c ∧ Src ok w μ S z ys A news := by
  cases y with
  | sl z' xs =>
    simp only [srcR, Option.some.injEq, Prod.mk.injEq] at h
    obtain ⟨rfl, rfl⟩ := h
    subst hψ
    cases hy with
    | sl _ _ _ hd =>
      cases hd with
      | sl _ _ n A c ad f hn hc hA hz0 hzz h1 h2 =>
        subst hn
        have hne : xs.map D.av ≠ [] → xs ≠ [] := fun h e => h (by simp [e])
        have hsc : ∀ (x : D), x ∈ xs → ∀ y ∈ x.cells, y.scalar = true := fun x hx => by
          obtain ⟨i, hi, rfl⟩ := List.mem_iff_getElem.1 hx
          exact (hzz i _ (List.getElem?_eq_getElem hi)).2
        have p1 : A = none → xs.map D.av = [] := by
          intro hA'
          cases xs with
          | nil => rfl
          | cons x xs => have := (hA (by simp)).1; rw [hA'] at this; cases this
        have p2 : ∀ x ∈ xs.map D.av, x.cells.length = z' ∧ ∀ y ∈ x.cells, y.scalar = true := by
          intro x hx
          obtain ⟨d, hd, rfl⟩ := List.mem_map.1 hx
          rw [D.av_cells d (hsc d hd)]
          obtain ⟨i, hi, rfl⟩ := List.mem_iff_getElem.1 hd
          refine ⟨by rw [List.length_map]; exact (hzz i _ (List.getElem?_eq_getElem hi)).1, ?_⟩
          intro y hy
          obtain ⟨c, hc, rfl⟩ := List.mem_map.1 hy
          exact D.av0_scalar (hsc _ hd c hc)
        have p3 : ∀ (k : Nat) (x : AV) (j : Nat) (y : AV), (xs.map D.av)[k]? = some x → x.cells[j]? = some y → (∀ ad, A = some ad → w.cell? (ad.add (k * z' + j)) = some (f k j)) ∧ Rep ok w μ S y (f k j) := by
          intro k x j y hk hj
          rw [List.getElem?_map, Option.map_eq_some_iff] at hk
          obtain ⟨d, hd, rfl⟩ := hk
          rw [D.av_cells d (hsc d (List.mem_of_getElem? hd)), List.getElem?_map, Option.map_eq_some_iff] at hj
          obtain ⟨c, hc, rfl⟩ := hj
          refine ⟨?_, (RepD.av (hsc d (List.mem_of_getElem? hd) c (List.mem_of_getElem? hc)) (h2 k d j c hd hc)).1⟩
          intro ad' hA'
          have := (hA (by intro e; simp [e] at hd)).1
          rw [hA'] at this
          cases this
          exact h1 k d j c hd hc
        obtain ⟨news, hs⟩ := src_mk hz f p1 p2 p3
        exact ⟨A, c, news, by rw [List.length_map], hs⟩
  | own j z' off m =>
    simp only [srcR] at h
    cases ho : getO S j with
    | some o =>
      rw [ho] at h
      simp only [Option.some.injEq, Prod.mk.injEq] at h
      obtain ⟨rfl, rfl⟩ := h
      obtain ⟨rfl, hoz, hle⟩ := hψ
      have hlen : ((o.es.drop off).take m).length = m := by simp; omega
      have hi := getO_some ho
      have hsiz : ∀ x ∈ (o.es.drop off).take m, x.cells.length = o.z ∧ ∀ y ∈ x.cells, y.scalar = true := fun x hx => (rs.siz j o hi).2 x (List.mem_of_mem_drop (List.mem_of_mem_take hx))
      cases hy with
      | own0 _ _ _ A hi' =>
        refine ⟨A, 0, [], by rw [hlen], ⟨by simp, by simp, by simp, by simp, by simp, by simp⟩⟩
      | own _ _ _ _ c cs ty hi' h0 hc hb hsz =>
        have p3 : ∀ (k : Nat) (x : AV) (jj : Nat) (y : AV), ((o.es.drop off).take m)[k]? = some x → x.cells[jj]? = some y → (∀ ad, (some (⟨μ j, off * z', none⟩ : Addr)) = some ad → w.cell? (ad.add (k * z' + jj)) = some ((w.cell? ⟨μ j, (off + k) * z' + jj, none⟩).getD undef)) ∧ Rep ok w μ S y ((w.cell? ⟨μ j, (off + k) * z' + jj, none⟩).getD undef) := by
          intro k x jj y hk hj
          rw [List.getElem?_take] at hk
          split at hk
          · rename_i hkm
            rw [List.getElem?_drop] at hk
            have hjj : jj < o.z := by
              rw [← ((rs.siz j o hi).2 x (List.mem_of_getElem? hk)).1]
              exact (List.getElem?_eq_some_iff.1 hj).1
            obtain ⟨y', v, hy', hv, hr, _⟩ := rs.cellAt hi (k := off + k) (j := jj) (by omega) hjj
            have hx : o.es.getD (off + k) .any = x := by simp [List.getD, hk]
            rw [hx, hj] at hy'
            cases hy'
            rw [hoz] at hv
            refine ⟨?_, by simpa [hv] using hr⟩
            intro ad ea; cases ea
            rw [Addr.add_lit, ← Nat.add_assoc, ← Nat.add_mul]
            simp [hv]
          · cases hk
        obtain ⟨news, hs⟩ := src_mk (A := some ⟨μ j, off * z', none⟩) hz (fun k jj => (w.cell? ⟨μ j, (off + k) * z' + jj, none⟩).getD undef) (by simp) (by rw [← hoz]; exact hsiz) p3
        exact ⟨_, c, news, by rw [hlen], hs⟩
    | none => rw [ho] at h; cases h
  | prim p =>
    cases hy
    cases u with
    | slice A n c =>
      cases n with
      | zero =>
        simp only [srcR, Option.some.injEq, Prod.mk.injEq] at h
        obtain ⟨_, rfl⟩ := h
        exact ⟨A, c, [], rfl, ⟨by simp, by simp, by simp, by simp, by simp, by simp⟩⟩
      | succ n => simp [srcR] at h
    | _ => simp [srcR] at h
  | _ => simp [srcR] at h
theorem run_append_none (t ty e : TypeId) (i : TypeInfo) (ht : P.underlying t = some (.slice e)) (hi : P.info? e = some i) (A : Option Addr) (n c c' : Nat) (hc : n ≤ c) (B : Option Addr) :
    (Builtin.append_ #[t, t] ty #[.slice A n c, .slice B 0 c']).run P w = .ok (.slice A n c) w := by
  cases A <;> cases B <;> simp [Builtin.append_, run_underlying w ht, Go.sizeOf, typeInfo, hi, Builtin.lenOf, Builtin.firstCells, loadCells, loadCellsFrom, storeCells, hc]
theorem appendNil_made (rs : RelS ok w μ S) {t e : TypeId} {ti te : TI} (ht : tiOf P t = some ti) (hs : ti.sh = .slice e) (he : tiOf P e = some te) (ty : TypeId) {y : AV} {u : Value} (hy : Rep ok w μ S y u) {ψ : Prop} {ys : List AV}
    (h : srcR S te.zs.length y = some (ψ, ys)) (hψ : ψ) (hb : ys.length * te.bytes ≤ 140737488355328) (hb0 : 0 < te.bytes) :
    Made P ok (Builtin.append_ #[t, t] ty #[.slice none 0 0, u]) w μ S ⟨te.zs.length, ys⟩ (fun i => .own i te.zs.length 0 ys.length) := by
  obtain ⟨_, d, _, hd, _, _, _, _, hsh, _⟩ := ti_spec ht
  rw [hs] at hsh
  obtain rfl := shOf_slice hsh
  obtain ⟨ie, _, hie, _, hz, hsz, hpos, _, _, hby, _⟩ := ti_spec he
  obtain ⟨A, c, news, rfl, src⟩ := src_spec rs hpos hy h hψ
  have hle : ys.length ≤ ys.length * te.bytes := Nat.le_mul_of_pos_right _ hb0
  rcases Nat.eq_zero_or_pos ys.length with h0 | h0
  · have hnil : ys = [] := List.eq_nil_of_length_eq_zero h0
    subst hnil
    refine ⟨.slice none 0 0, w, run_append_none t ty e ie hd hie none 0 0 c (Nat.le_refl _) A, Mod.refl _ _, hpos, by simp, by simp, fun id μ2 S2 hid _ => .own0 _ _ _ _ hid⟩
  · cases A with
    | none => have := src.none rfl; simp [this] at h0
    | some ad =>
      have hrun := run_append_nil (P := P) w t t.succ.pred e ie (zval te) hd hie hz ad ys.length c news (by rw [hsz]; exact src.len) (src.cell ad rfl) h0 (by omega) (by rw [hby]; omega)
      have hrun' : (Builtin.append_ #[t, t] ty #[.slice none 0 0, .slice (some ad) ys.length c]).run P w = _ := hrun
      have hcap := grownCap_ge w ys.length 0 e
      refine ⟨_, _, hrun', mod_drew_alloc _ _, hpos, src.siz, ?_, ?_⟩
      · intro _
        refine ⟨_, _, heap_new w.drew _, by simp [src.len], ?_⟩
        intro k x j y hk hj
        obtain ⟨v, hv, hr⟩ := src.rep k x j y hk hj
        refine ⟨v, ?_, hr⟩
        have hlt := (List.getElem?_eq_some_iff.1 hv).1
        rw [Array.getElem?_append_left (by simpa using hlt)]
        simpa using hv
      · refine own_new _ _ _ _ _ _ hcap (heap_new w.drew _) ?_ (fun h => absurd h (Nat.ne_of_gt h0))
        simp only [Array.size_append, List.size_toArray, size_zeroCells, zval_cells he, src.len]
        rw [← Nat.add_mul]
        exact Nat.mul_le_mul_right _ (by omega)
end
end
section
theorem mod_setRow (w : World) (g : Nat) (cur cs : Array Value) (t : TypeId) (h : w.heap[g]? = some (.cells cur t (0, 0))) (hs : cs.size = cur.size) : Mod w (fun b => b = g) (w.setRow g cs) :=
  ⟨rfl, rfl, rfl, by simp, fun b hb hn => setRow_other w g b cs hn, fun b c ty fz hb => by
    by_cases e : b = g
    · subst e
      rw [h] at hb
      cases hb
      exact ⟨cs, setRow_heap w b cur cs t (0, 0) h, hs⟩
    · exact ⟨c, by rw [setRow_other w g b cs e]; exact hb, rfl⟩⟩
theorem sc0_pur (i : Nat) {x : AV} (h : x.nm0 i = true) : x.sc0 [i] = x := by cases x <;> first | rfl | (simp [AV.nm0, AV.pur0] at h; done) | (simp [AV.nm0] at h; simp [AV.sc0, h])
theorem cells_pur {i : Nat} {x : AV} (h : x.pur i = true) : ∀ y ∈ x.cells, y.nm0 i = true := by
  rcases AV.agg_or x with ⟨xs, rfl⟩ | hc
  · simpa [AV.pur, AV.cells] using h
  · intro y hy
    rw [hc] at hy
    obtain rfl := List.mem_singleton.1 hy
    cases y with
    | agg xs =>
      exfalso
      have e := congrArg SizeOf.sizeOf hc
      simp [AV.cells] at e
      omega
    | _ => exact h
section
variable {P : Program} {ok : Nat → Prop} {w0 : World} {μ0 : Nat → Nat} {S0 : Store} {st : St} {μ : Nat → Nat} {a : Act} {w : World}
theorem append_own (h : RelT ok w0 μ0 S0 st μ a w) {t e : TypeId} {ti te : TI} (ht : tiOf P t = some ti) (hs : ti.sh = .slice e) (he : tiOf P e = some te) (ty : TypeId) {i len : Nat} {ux : Value} (hx : Rep ok w μ st.S (.own i te.zs.length 0 len) ux)
    {y : AV} {u : Value} (hy : Rep ok w μ st.S y u) {ψ : Prop} {ys : List AV} (hsrc : srcR st.S te.zs.length y = some (ψ, ys)) (hψ : ψ) {o : AObj} (ho : getO st.S i = some o) (hz : o.z = te.zs.length) (hlen : o.es.length = len)
    (hb : (len + ys.length) * te.bytes ≤ 140737488355328) (hb0 : 0 < te.bytes) (hpur : (o.es ++ ys).all (AV.pur i) = true) :
    ∃ r w' μ', (Builtin.append_ #[t, t] ty #[ux, u]).run P w = .ok r w' ∧ RelT ok w0 μ0 S0 ⟨scT [i] st.tm, (scS [i] st.S).set i (some ⟨o.z, o.es ++ ys⟩), [i] ++ st.mv⟩ μ' a w' ∧
      Rep ok w' μ' ((scS [i] st.S).set i (some ⟨o.z, o.es ++ ys⟩)) (.own i te.zs.length 0 (len + ys.length)) r := by
  obtain ⟨_, d, _, hd, _, _, _, _, hsh, _⟩ := ti_spec ht
  rw [hs] at hsh
  obtain rfl := shOf_slice hsh
  obtain ⟨ie, _, hie, _, hzv, hsz, hpos, _, _, hby, _⟩ := ti_spec he
  obtain ⟨A, c, news, rfl, src⟩ := src_spec h.rs hpos hy hsrc hψ
  have hle : len + ys.length ≤ (len + ys.length) * te.bytes := Nat.le_mul_of_pos_right _ hb0
  have hi := getO_some ho
  have hil : i < st.S.length := (List.getElem?_eq_some_iff.1 hi).1
  have hsiz0 := (h.rs.siz i o hi).2
  have hsizA : ∀ x ∈ o.es ++ ys, x.cells.length = o.z ∧ ∀ y ∈ x.cells, y.scalar = true := by
    intro x hx
    rcases List.mem_append.1 hx with hx | hx
    · exact hsiz0 x hx
    · rw [hz]; exact src.siz x hx
  rw [List.all_eq_true] at hpur
  have hlenS : i < ((scS [i] st.S).set i (some ⟨o.z, o.es ++ ys⟩)).length := by simp [scS, hil]
  -- the old cells, as a list
  have holds : ∀ cs ty', w.heap[μ i]? = some (.cells cs ty' (0, 0)) → o.es.length * o.z ≤ cs.size → ∀ j u, (cs.toList.take (len * o.z))[j]? = some u → w.cell? ((⟨μ i, 0, none⟩ : Addr).add j) = some u := by
    intro cs ty' hb' _ j u hj
    rw [List.getElem?_take] at hj
    split at hj
    · rw [Addr.add_lit]; simpa [World.cell?, hb'] using hj
    · cases hj
  -- the turned object's cells, out of old cells and new ones
  have hcells : ∀ (cs' : Array Value), (∀ (k : Nat) (x : AV) (j : Nat) (y : AV), o.es[k]? = some x → x.cells[j]? = some y → ∃ v, cs'[k * o.z + j]? = some v ∧ Rep ok w μ st.S y v) → (∀ j v, news[j]? = some v → cs'[len * o.z + j]? = some v) →
      ∀ (k : Nat) (x : AV) (j : Nat) (y : AV), (o.es ++ ys)[k]? = some x → x.cells[j]? = some y → ∃ v, cs'[k * o.z + j]? = some v ∧ ∃ y0, Rep ok w μ st.S y0 v ∧ y0.scalar = true ∧ y = y0.sd0 [i] := by
    intro cs' h1 h2 k x j y hk hj
    have hxm := List.mem_of_getElem? hk
    have hys := (hsizA x hxm).2 y (List.mem_of_getElem? hj)
    have hp := cells_pur (hpur x hxm) y (List.mem_of_getElem? hj)
    rw [List.getElem?_append] at hk
    split at hk
    · obtain ⟨v, hv, hr⟩ := h1 k x j y hk hj
      exact ⟨v, hv, y, hr, hys, (sc0_pur _ hp).symm⟩
    · rename_i hge
      obtain ⟨v, hv, hr⟩ := src.rep (k - o.es.length) x j y hk hj
      have hv' := h2 _ v hv
      refine ⟨v, ?_, y, hr, hys, (sc0_pur _ hp).symm⟩
      rw [← hv', ← hlen, ← hz]
      congr 1
      have : k * o.z = o.es.length * o.z + (k - o.es.length) * o.z := by rw [← Nat.add_mul]; congr 1; omega
      omega
  rcases Nat.eq_zero_or_pos ys.length with hy0 | hy0
  · -- nothing is appended
    have hnil : ys = [] := List.eq_nil_of_length_eq_zero hy0
    subst hnil
    have hn0 : news = [] := List.eq_nil_of_length_eq_zero (by simpa using src.len)
    cases hx with
    | own0 _ _ _ B hi' =>
      have hes : o.es = [] := List.eq_nil_of_length_eq_zero hlen
      refine ⟨_, w, _, run_append_none t ty e ie hd hie B 0 0 c (Nat.le_refl _) A, h.turn i o ⟨o.z, o.es ++ []⟩ hi [i] (.inr rfl) (w' := w) w.heap.size (Mod.refl _ _) ⟨by simp, .inr (Nat.le_refl _)⟩ (h.rs.siz i o hi).1 hsizA (fun hne => by simp [hes] at hne), .own0 _ _ _ _ hlenS⟩
    | own _ _ _ _ cp cs ty' hi' h0 hc hb' hsz' =>
      have hne : o.es ≠ [] := by intro e; simp [e] at hlen; omega
      obtain ⟨cs2, ty2, hb2, hs2, hc2⟩ := h.rs.blk i o hi hne
      refine ⟨_, w, _, run_append_none t ty e ie hd hie _ len cp c hc A, h.turn i o ⟨o.z, o.es ++ []⟩ hi [i] (.inr rfl) (w' := w) (μ i) (Mod.refl _ _) ⟨fun _ => rfl, .inl ⟨hne, rfl⟩⟩ (h.rs.siz i o hi).1 hsizA (fun _ => ⟨cs2, ty2, hb2, by simpa using hs2, hcells cs2 hc2 (by simp [hn0])⟩), ?_⟩
      have := Rep.own (ok := ok) (w := w) (μ := fun j => if j = i then μ i else μ j) (S := (scS [i] st.S).set i (some ⟨o.z, o.es ++ []⟩)) i te.zs.length 0 len cp cs ty' hlenS h0 hc (by simpa using hb') hsz'
      simpa using this
  · cases A with
    | none => have := src.none rfl; simp [this] at hy0
    | some ad =>
      cases hx with
      | own0 _ _ _ B hi' =>
        have hes : o.es = [] := List.eq_nil_of_length_eq_zero hlen
        have hb1 : ys.length * te.bytes ≤ 140737488355328 := by simpa using hb
        have hle1 : ys.length ≤ ys.length * te.bytes := Nat.le_mul_of_pos_right _ hb0
        have hrun : ∃ w', (Builtin.append_ #[t, t] ty #[.slice B 0 0, .slice (some ad) ys.length c]).run P w = .ok (.slice (some ⟨w.heap.size, 0, none⟩) ys.length (grownCap w ys.length 0 e)) w' ∧
            w' = w.drew.alloc (.cells (news.toArray ++ Builtin.zeroCells (zval te).cells (grownCap w ys.length 0 e - ys.length)) e) := by
          cases B with
          | none => exact ⟨_, run_append_nil (P := P) w t ty e ie (zval te) hd hie hzv ad ys.length c news (by rw [hsz]; exact src.len) (src.cell ad rfl) hy0 (by omega) (by rw [hby]; omega), rfl⟩
          | some b =>
            have := run_append_grow (P := P) w t ty e ie (zval te) hd hie hzv b 0 0 [] (by simp) (by simp) ad ys.length c news (by rw [hsz]; exact src.len) (src.cell ad rfl) (by omega) (by omega) (growslice_fits (by omega) (by rw [hby]; exact hb))
            simp only [Nat.zero_add, Array.empty_append] at this
            exact ⟨_, this, by simp⟩
        obtain ⟨w', hrun, rfl⟩ := hrun
        have hcap := grownCap_ge w ys.length 0 e
        have hlen' : ys.length * o.z ≤ (news.toArray ++ Builtin.zeroCells (zval te).cells (grownCap w ys.length 0 e - ys.length)).size := by simp [src.len, hz]
        refine ⟨_, _, _, hrun, h.turn i o ⟨o.z, o.es ++ ys⟩ hi [i] (.inr rfl) w.heap.size ((mod_drew_alloc w _).trans (Mod.refl _ (fun _ => False)) (fun _ _ h => h) |> fun m => ⟨m.os, m.tape, m.output, m.size, fun b hb _ => m.keep b hb id, m.shape⟩) ⟨by simp, .inr (Nat.le_refl _)⟩ (h.rs.siz i o hi).1 hsizA (fun _ => ⟨_, _, heap_new w.drew _, by simpa [hes] using hlen', hcells _ (by simp [hes]) ?_⟩), ?_⟩
        · intro j v hj
          have hlt := (List.getElem?_eq_some_iff.1 hj).1
          rw [Array.getElem?_append_left (by simp; omega)]
          simpa using hj
        · have hsize : (0 + grownCap w ys.length 0 e) * te.zs.length ≤ (news.toArray ++ Builtin.zeroCells (zval te).cells (grownCap w ys.length 0 e - ys.length)).size := by
            simp only [Array.size_append, List.size_toArray, size_zeroCells, zval_cells he, src.len]
            rw [← Nat.add_mul]
            exact Nat.mul_le_mul_right _ (by omega)
          have := Rep.own (ok := ok) (w := w.drew.alloc (.cells (news.toArray ++ Builtin.zeroCells (zval te).cells (grownCap w ys.length 0 e - ys.length)) e)) (μ := fun j => if j = i then w.heap.size else μ j) (S := (scS [i] st.S).set i (some ⟨o.z, o.es ++ ys⟩)) i te.zs.length 0 ys.length _ _ _ hlenS hy0 hcap (by simpa using heap_new w.drew _) hsize
          simpa using this
      | own _ _ _ _ cp cs ty' hi' h0 hc hb' hsz' =>
        have hne : o.es ≠ [] := by intro e; simp [e] at hlen; omega
        obtain ⟨cs2, ty2, hb2, hs2, hc2⟩ := h.rs.blk i o hi hne
        rw [hb'] at hb2
        cases hb2
        rw [Nat.zero_add] at hsz'
        by_cases hroom : len + ys.length ≤ cp
        · have hfit : len * ie.size + news.length ≤ cs.size := by
            rw [src.len, hsz, ← Nat.add_mul]
            exact Nat.le_trans (Nat.mul_le_mul_right _ hroom) hsz'
          have hf := run_firstCells_some (P := P) w ie.size ys.length ad ys.length c news (by rw [hsz]; exact src.len) (src.cell ad rfl)
          have hst := run_storeCells_at P (μ i) (len * ie.size) ty' news 0 cs w hb' (by simpa using hfit) src.one
          simp only [Nat.add_zero] at hst
          have hrun : (Builtin.append_ #[t, t] ty #[.slice (some ⟨μ i, 0 * te.zs.length, none⟩) len cp, .slice (some ad) ys.length c]).run P w =
              .ok (.slice (some ⟨μ i, 0, none⟩) (len + ys.length) cp) (w.setRow (μ i) (cs.toList.take (len * ie.size) ++ news ++ cs.toList.drop (len * ie.size + news.length)).toArray) := by
            simp [Builtin.append_, run_underlying w hd, Go.sizeOf, typeInfo, hie, Builtin.lenOf, hroom, hf, Addr.add_lit, hst]
          have hcs' : (cs.toList.take (len * ie.size) ++ news ++ cs.toList.drop (len * ie.size + news.length)).toArray.size = cs.size := by
            simp only [List.size_toArray, List.length_append, List.length_take, List.length_drop, Array.length_toList]
            omega
          have hmod := mod_setRow w (μ i) cs _ ty' hb' hcs'
          have htake : (cs.toList.take (len * ie.size)).length = len * ie.size := by rw [List.length_take, Array.length_toList]; omega
          refine ⟨_, _, _, hrun, h.turn i o ⟨o.z, o.es ++ ys⟩ hi [i] (.inr rfl) (μ i) ⟨hmod.os, hmod.tape, hmod.output, hmod.size, fun b hb hn => hmod.keep b hb (fun e => hn ⟨hne, e⟩), hmod.shape⟩ ⟨fun _ => rfl, .inl ⟨hne, rfl⟩⟩ (h.rs.siz i o hi).1 hsizA
            (fun _ => ⟨_, _, setRow_heap w (μ i) cs _ ty' (0, 0) hb', ?_, hcells _ ?_ ?_⟩), ?_⟩
          · rw [hcs', List.length_append, hlen, hz]
            exact Nat.le_trans (Nat.mul_le_mul_right _ hroom) hsz'
          · intro k x j y hk hj
            obtain ⟨v, hv, hr⟩ := hc2 k x j y hk hj
            refine ⟨v, ?_, hr⟩
            have hkl := (List.getElem?_eq_some_iff.1 hk).1
            have hjl : j < o.z := by rw [← (hsiz0 x (List.mem_of_getElem? hk)).1]; exact (List.getElem?_eq_some_iff.1 hj).1
            have hlt : k * o.z + j < len * ie.size := by
              rw [hsz, ← hz, ← hlen]
              have := Nat.mul_le_mul_right o.z (show k + 1 ≤ o.es.length by omega)
              rw [Nat.add_mul] at this; omega
            rw [List.getElem?_toArray, List.append_assoc, List.getElem?_append_left (by rw [htake]; exact hlt), List.getElem?_take, if_pos hlt]
            simpa using hv
          · intro j v hj
            have hlt := (List.getElem?_eq_some_iff.1 hj).1
            rw [hz, ← hsz, List.getElem?_toArray, List.append_assoc, List.getElem?_append_right (by rw [htake]; omega), htake, Nat.add_sub_cancel_left, List.getElem?_append_left hlt]
            exact hj
          · have := Rep.own (ok := ok) (w := w.setRow (μ i) (cs.toList.take (len * ie.size) ++ news ++ cs.toList.drop (len * ie.size + news.length)).toArray) (μ := fun j => if j = i then μ i else μ j) (S := (scS [i] st.S).set i (some ⟨o.z, o.es ++ ys⟩)) i te.zs.length 0 (len + ys.length) cp (cs.toList.take (len * ie.size) ++ news ++ cs.toList.drop (len * ie.size + news.length)).toArray ty' hlenS (by omega) hroom (by simpa using setRow_heap w (μ i) cs (cs.toList.take (len * ie.size) ++ news ++ cs.toList.drop (len * ie.size + news.length)).toArray ty' (0, 0) hb') (by rw [hcs', Nat.zero_add]; exact hsz')
            simpa using this
        · have holdsl : (cs.toList.take (len * o.z)).length = len * ie.size := by
            rw [List.length_take, Array.length_toList, hsz, ← hz]
            have : len * o.z ≤ cs.size := by rw [← hlen]; exact hs2
            omega
          have hrun := run_append_grow (P := P) w t ty e ie (zval te) hd hie hzv ⟨μ i, 0, none⟩ len cp (cs.toList.take (len * o.z)) holdsl (holds cs ty' hb' hs2) ad ys.length c news (by rw [hsz]; exact src.len) (src.cell ad rfl) (by omega) (by omega) (growslice_fits (by omega) (by rw [hby]; exact hb))
          have hcap := grownCap_ge w (len + ys.length) cp e
          have hsize : (grownCap w (len + ys.length) cp e) * te.zs.length ≤ ((cs.toList.take (len * o.z)).toArray ++ news.toArray ++ Builtin.zeroCells (zval te).cells (grownCap w (len + ys.length) cp e - (len + ys.length))).size := by
            simp only [Array.size_append, List.size_toArray, size_zeroCells, zval_cells he, src.len, holdsl, hsz]
            rw [← Nat.add_mul, ← Nat.add_mul]
            exact Nat.mul_le_mul_right _ (by omega)
          refine ⟨_, _, _, by rw [Nat.zero_mul]; exact hrun, h.turn i o ⟨o.z, o.es ++ ys⟩ hi [i] (.inr rfl) w.heap.size ((mod_drew_alloc w _) |> fun m => ⟨m.os, m.tape, m.output, m.size, fun b hb _ => m.keep b hb id, m.shape⟩) ⟨by simp, .inr (Nat.le_refl _)⟩ (h.rs.siz i o hi).1 hsizA (fun _ => ⟨_, _, heap_new w.drew _, ?_, hcells _ ?_ ?_⟩), ?_⟩
          · have e1 : (o.es ++ ys).length * o.z ≤ grownCap w (len + ys.length) cp e * te.zs.length := by
              rw [List.length_append, hlen, hz]
              exact Nat.mul_le_mul_right _ hcap
            exact Nat.le_trans e1 hsize
          · intro k x j y hk hj
            obtain ⟨v, hv, hr⟩ := hc2 k x j y hk hj
            refine ⟨v, ?_, hr⟩
            have hkl := (List.getElem?_eq_some_iff.1 hk).1
            have hjl : j < o.z := by rw [← (hsiz0 x (List.mem_of_getElem? hk)).1]; exact (List.getElem?_eq_some_iff.1 hj).1
            have hlt : k * o.z + j < len * o.z := by
              rw [← hlen]
              have := Nat.mul_le_mul_right o.z (show k + 1 ≤ o.es.length by omega)
              rw [Nat.add_mul] at this; omega
            have hlt2 : k * o.z + j < (cs.toList.take (len * o.z)).toArray.size := by rw [List.size_toArray, holdsl, hsz, ← hz]; exact hlt
            rw [Array.append_assoc, Array.getElem?_append_left hlt2, List.getElem?_toArray, List.getElem?_take, if_pos hlt]
            simpa using hv
          · intro j v hj
            have hlt := (List.getElem?_eq_some_iff.1 hj).1
            have hl2 : (cs.toList.take (len * o.z)).toArray.size = len * o.z := by rw [List.size_toArray, holdsl, hsz, ← hz]
            rw [Array.append_assoc, Array.getElem?_append_right (by rw [hl2]; omega), hl2, Nat.add_sub_cancel_left, Array.getElem?_append_left (by simpa using hlt)]
            simpa using hj
          · have := Rep.own (ok := ok) (w := w.drew.alloc (.cells ((cs.toList.take (len * o.z)).toArray ++ news.toArray ++ Builtin.zeroCells (zval te).cells (grownCap w (len + ys.length) cp e - (len + ys.length))) e)) (μ := fun j => if j = i then w.heap.size else μ j) (S := (scS [i] st.S).set i (some ⟨o.z, o.es ++ ys⟩)) i te.zs.length 0 (len + ys.length) _ ((cs.toList.take (len * o.z)).toArray ++ news.toArray ++ Builtin.zeroCells (zval te).cells (grownCap w (len + ys.length) cp e - (len + ys.length))) e hlenS (by omega) hcap (by rw [if_pos rfl]; exact heap_new w.drew _) (by rw [Nat.zero_add]; exact hsize)
            simpa using this
end
end
section
section
variable {P : Program} {ok : Nat → Prop} {w0 : World} {μ0 : Nat → Nat} {S0 : Store} {st : St} {μ : Nat → Nat} {a : Act} {w : World}
theorem splice_get {xs ys : List AV} {k : Nat} (h : k + ys.length ≤ xs.length) (j : Nat) : (splice xs k ys)[j]? = if k ≤ j ∧ j < k + ys.length then ys[j - k]? else xs[j]? := by
  have ht : (xs.take k).length = k := by rw [List.length_take]; omega
  unfold splice
  by_cases h1 : j < k
  · rw [if_neg (by omega), List.append_assoc, List.getElem?_append_left (by omega), List.getElem?_take, if_pos h1]
  · by_cases h2 : j < k + ys.length
    · rw [if_pos ⟨by omega, h2⟩, List.append_assoc, List.getElem?_append_right (by omega), ht, List.getElem?_append_left (by omega)]
    · rw [if_neg (by omega), List.getElem?_append_right (by simp [ht]; omega), List.getElem?_drop]
      congr 1
      simp only [List.length_append, ht]
      omega
theorem splice_len {xs ys : List AV} {k : Nat} (h : k + ys.length ≤ xs.length) : (splice xs k ys).length = xs.length := by
  unfold splice
  simp only [List.length_append, List.length_take, List.length_drop]
  omega
/-- The cells of an element that was written to. -/
theorem putAt_spec {x : AV} {k : Nat} {ys : List AV} {z : Nat} (hl : x.cells.length = z) (hs : ∀ y ∈ x.cells, y.scalar = true) (hk : k + ys.length ≤ z) (h0 : 0 < ys.length) (hys : ∀ y ∈ ys, y.scalar = true) :
    (x.putAt k ys).cells.length = z ∧ (∀ y ∈ (x.putAt k ys).cells, y.scalar = true) ∧ ∀ (j : Nat), (x.putAt k ys).cells[j]? = if k ≤ j ∧ j < k + ys.length then ys[j - k]? else x.cells[j]? := by
  have fin : ∀ zs : List AV, zs.length = z → (∀ (j : Nat), zs[j]? = if k ≤ j ∧ j < k + ys.length then ys[j - k]? else x.cells[j]?) → ∀ y ∈ zs, y.scalar = true := by
    intro zs hz hg y hy
    obtain ⟨j, hj, rfl⟩ := List.mem_iff_getElem.1 hy
    have := hg j
    rw [List.getElem?_eq_getElem hj] at this
    split at this
    · exact hys _ (List.mem_of_getElem? this.symm)
    · exact hs _ (List.mem_of_getElem? this.symm)
  rcases AV.agg_or x with ⟨xs, rfl⟩ | hc
  · simp only [AV.cells] at hl hs
    have hlen := splice_len (xs := xs) (ys := ys) (k := k) (by omega)
    have hget := splice_get (xs := xs) (ys := ys) (k := k) (by omega)
    refine ⟨by simpa [AV.putAt, AV.cells, hlen] using hl, ?_, fun j => by simpa [AV.putAt, AV.cells] using hget j⟩
    exact fin _ (by simpa [AV.putAt, AV.cells, hlen] using hl) (fun j => by simpa [AV.putAt, AV.cells] using hget j)
  · have hz1 : z = 1 := by rw [← hl, hc]; rfl
    have hk0 : k = 0 := by omega
    have hy1 : ys.length = 1 := by omega
    obtain ⟨y, rfl⟩ : ∃ y, ys = [y] := by
      cases ys with
      | nil => simp at hy1
      | cons y r => cases r with
        | nil => exact ⟨y, rfl⟩
        | cons => simp at hy1
    subst hk0
    have hput : x.putAt 0 [y] = y := by
      cases x with
      | agg xs =>
        exfalso
        have e := congrArg SizeOf.sizeOf hc
        simp [AV.cells] at e
        omega
      | _ => rfl
    have hyc : y.cells = [y] := by
      rcases AV.agg_or y with ⟨xs, rfl⟩ | h
      · have := hys _ (List.mem_singleton.2 rfl); simp [AV.scalar] at this
      · exact h
    rw [hput, hyc, hc]
    refine ⟨by simp [hz1], by simpa using hys, fun j => ?_⟩
    cases j with
    | zero => simp
    | succ j => simp
theorem store_sound (h : RelT ok w0 μ0 S0 st μ a w) {t : TypeId} {ti : TI} (ht : tiOf P t = some ti) {x v : AV} {ux uv : Value} (hx : Rep ok w μ st.S x ux) (hv : Rep ok w μ st.S v uv) {φ : Prop} {i : Nat} {ob : AObj} (hr : storeR ti st.S v x = .set φ i ob) (hφ : φ) :
    ∃ w' μ', (Instr.storeAt t ux uv).run P w = .ok () w' ∧ RelT ok w0 μ0 S0 { st with S := st.S.set i (some ob) } μ' a w' := by
  obtain ⟨_, _, _, _, _, _, h0, _⟩ := ti_spec ht
  unfold storeR at hr
  cases x with
  | ref i' z k sub =>
    simp only at hr
    cases ho : getO st.S i' with
    | none => rw [ho] at hr; cases hr
    | some o =>
      rw [ho] at hr
      simp only at hr
      injection hr with e1 e2 e3
      subst e1; subst e2; subst e3
      obtain ⟨rfl, hk, hsz, hvl, hvok⟩ := hφ
      cases hx with
      | ref _ _ _ _ hil =>
        have hi := getO_some ho
        have hne : o.es ≠ [] := by intro e; simp [e] at hk
        obtain ⟨cs, ty, hb, hs, hc⟩ := h.rs.blk i' o hi hne
        obtain ⟨hz0, hsiz⟩ := h.rs.siz i' o hi
        have hxk : o.es[k]? = some (o.es.getD k .any) := by simp [List.getD, List.getElem?_eq_getElem hk]
        obtain ⟨hl, hsc⟩ := hsiz _ (List.mem_of_getElem? hxk)
        obtain ⟨us, hu, hul, hur⟩ := hv.cellsOf hvok
        have hvs : ∀ y ∈ v.cells, y.scalar = true := by
          rcases AV.agg_or v with ⟨xs, rfl⟩ | hcv
          · cases hv with | agg _ vs hl hs h => exact hs
          · intro y hy
            rw [hcv] at hy
            obtain rfl := List.mem_singleton.1 hy
            cases y with
            | agg xs =>
              exfalso
              have e := congrArg SizeOf.sizeOf hcv
              simp [AV.cells] at e
              omega
            | _ => exact hvok
        have hone : ∀ u ∈ us, u.oneCell' = true := by
          intro u hu'
          obtain ⟨j, hj, rfl⟩ := List.mem_iff_getElem.1 hu'
          have hjv : j < v.cells.length := by omega
          exact (hur j _ _ (List.getElem?_eq_getElem hjv) (List.getElem?_eq_getElem hj)).one (hvs _ (List.getElem_mem hjv))
        have hfit : k * o.z + sub + us.length ≤ cs.size := by
          have := Nat.mul_le_mul_right o.z (show k + 1 ≤ o.es.length by omega)
          rw [Nat.add_mul] at this
          omega
        have hst := run_storeCells_at P (μ i') (k * o.z + sub) ty us 0 cs w hb (by simpa using hfit) hone
        simp only [Nat.add_zero] at hst
        have hrun : (Instr.storeAt t (.pointer (some ⟨μ i', k * o.z + sub, none⟩)) uv).run P w = .ok () (w.setRow (μ i') (cs.toList.take (k * o.z + sub) ++ us ++ cs.toList.drop (k * o.z + sub + us.length)).toArray) := by
          have : ¬ us.length ≠ ti.zs.length := by omega
          simp [Instr.storeAt, Instr.sureAddr, storeVar, run_sizeOf w ht, hu, hst]
          omega
        have hcs' : (cs.toList.take (k * o.z + sub) ++ us ++ cs.toList.drop (k * o.z + sub + us.length)).toArray.size = cs.size := by
          simp only [List.size_toArray, List.length_append, List.length_take, List.length_drop, Array.length_toList]
          omega
        have hmod := mod_setRow w (μ i') cs _ ty hb hcs'
        obtain ⟨p1, p2, p3⟩ := putAt_spec (x := o.es.getD k .any) (k := sub) (ys := v.cells) hl hsc (by omega) (by omega) hvs
        have hsizA : ∀ x ∈ o.es.set k ((o.es.getD k .any).putAt sub v.cells), x.cells.length = o.z ∧ ∀ y ∈ x.cells, y.scalar = true := by
          intro x hx
          rcases List.mem_or_eq_of_mem_set hx with hx | rfl
          · exact hsiz x hx
          · exact ⟨p1, p2⟩
        have htake : (cs.toList.take (k * o.z + sub)).length = k * o.z + sub := by rw [List.length_take, Array.length_toList]; omega
        have hget : ∀ (j : Nat), (cs.toList.take (k * o.z + sub) ++ us ++ cs.toList.drop (k * o.z + sub + us.length)).toArray[j]? = if k * o.z + sub ≤ j ∧ j < k * o.z + sub + us.length then us[j - (k * o.z + sub)]? else cs[j]? := by
          intro j
          rw [List.getElem?_toArray]
          by_cases h1 : j < k * o.z + sub
          · rw [if_neg (by omega), List.append_assoc, List.getElem?_append_left (by omega), List.getElem?_take, if_pos h1]
            simp
          · by_cases h2 : j < k * o.z + sub + us.length
            · rw [if_pos ⟨by omega, h2⟩, List.append_assoc, List.getElem?_append_right (by omega), htake, List.getElem?_append_left (by omega)]
            · rw [if_neg (by omega), List.getElem?_append_right (by simp only [List.length_append, htake]; omega), List.getElem?_drop]
              simp only [List.length_append, htake, Array.getElem?_toList]
              congr 1
              omega
        have := h.turn i' o ⟨o.z, o.es.set k ((o.es.getD k .any).putAt sub v.cells)⟩ hi [] (.inl rfl) (w' := w.setRow (μ i') (cs.toList.take (k * o.z + sub) ++ us ++ cs.toList.drop (k * o.z + sub + us.length)).toArray) (μ i') ⟨hmod.os, hmod.tape, hmod.output, hmod.size, fun b hb hn => hmod.keep b hb (fun e => hn ⟨hne, e⟩), hmod.shape⟩ ⟨fun _ => rfl, .inl ⟨hne, rfl⟩⟩ hz0 hsizA
          (fun _ => ⟨_, _, setRow_heap w (μ i') cs _ ty (0, 0) hb, by rw [hcs']; simpa using hs, ?_⟩)
        · refine ⟨_, _, hrun, by simpa [scT, scS] using this⟩
        · intro k' x' j y hk' hj
          have hy := (hsizA x' (List.mem_of_getElem? hk')).2 y (List.mem_of_getElem? hj)
          have hjz : j < o.z := by rw [← (hsizA x' (List.mem_of_getElem? hk')).1]; exact (List.getElem?_eq_some_iff.1 hj).1
          dsimp only at hk' ⊢
          rw [hget]
          rw [List.getElem?_set] at hk'
          by_cases e : k = k'
          · subst e
            rw [if_pos rfl, if_pos hk] at hk'
            cases hk'
            rw [p3 j] at hj
            by_cases hin : sub ≤ j ∧ j < sub + v.cells.length
            · rw [if_pos hin] at hj
              rw [if_pos ⟨by omega, by omega⟩]
              have hju : j - sub < us.length := by omega
              refine ⟨us[j - sub], ?_, y, hur _ _ _ hj (List.getElem?_eq_getElem hju), hy, rfl⟩
              rw [show k * o.z + j - (k * o.z + sub) = j - sub by omega]
              exact List.getElem?_eq_getElem hju
            · rw [if_neg hin] at hj
              rw [if_neg (by omega)]
              obtain ⟨v', hv', hr'⟩ := hc k _ j y hxk hj
              exact ⟨v', hv', y, hr', hy, rfl⟩
          · rw [if_neg e] at hk'
            obtain ⟨v', hv', hr'⟩ := hc k' x' j y hk' hj
            refine ⟨v', ?_, y, hr', hy, rfl⟩
            rw [if_neg ?_]
            · exact hv'
            · rcases Nat.lt_or_gt_of_ne e with hlt | hlt
              · have := Nat.mul_le_mul_right o.z (show k + 1 ≤ k' by omega)
                rw [Nat.add_mul] at this; omega
              · have := Nat.mul_le_mul_right o.z (show k' + 1 ≤ k by omega)
                rw [Nat.add_mul] at this; omega
  | _ => simp at hr
end
end
section
def Callable (P : Program) (f : FuncId) : Prop := ∃ fn, P.funcs[f]? = some fn ∧ (fn.name == "runtime.NumGoroutine") = false ∧ fn.body.isNone = false
/-- A function of the program, called with such values over such objects, returns; Q says what, which objects there are then, and which moved. -/
def AFn (P : Program) (f : FuncId) (args : List AV) (S : Store) (Q : AV → Store → List Nat → Prop) : Prop :=
  Callable P f ∧ ∀ (ok : Nat → Prop) (μ : Nat → Nat) (w : World) (vs : Array Value), (∀ b, w.heap.size ≤ b → ok b) → RelS ok w μ S → vs.size = args.length → (∀ (j : Nat) (x : AV), args[j]? = some x → Rep ok w μ S x (vs.getD j undef)) →
    Calls P f vs w (fun e w' => ∃ r v S' mv μ', e = .returned v ∧ Q r S' mv ∧ RelS ok w' μ' S' ∧ Rep ok w' μ' S' r v ∧ Mod w (liveB S μ) w' ∧ (∀ b, b < w.heap.size → liveB S' μ' b → liveB S μ b) ∧ S.length ≤ S'.length ∧
      (∀ i, i < S.length → mv.contains i = false → μ' i = μ i))
theorem AFn.mono {P : Program} {f : FuncId} {args : List AV} {S : Store} {Q Q' : AV → Store → List Nat → Prop} (h : AFn P f args S Q) (hq : ∀ r S' mv, Q r S' mv → Q' r S' mv) : AFn P f args S Q' :=
  ⟨h.1, fun ok μ w vs hok rs hl hr => (h.2 ok μ w vs hok rs hl hr).mono fun e w' ⟨r, v, S', mv, μ', h1, h2, h3⟩ => ⟨r, v, S', mv, μ', h1, hq _ _ _ h2, h3⟩⟩
/-- What an operation's result does to a state. -/
def afterR (P : Program) (r : OpR) (d : Option Tmp) (st : St) (K : St → Prop) : Prop :=
  match r with
  | .val φ v => φ ∧ K (st.put d v)
  | .new φ ob mk => φ ∧ K (St.put ⟨st.tm, st.S ++ [some ob], st.mv⟩ d (mk st.S.length))
  | .set φ i ob => φ ∧ K (St.put ⟨st.tm, st.S.set i (some ob), st.mv⟩ d (.tup []))
  | .app φ i ob v => φ ∧ K (St.put ⟨scT [i] st.tm, (scS [i] st.S).set i (some ob), [i] ++ st.mv⟩ d v)
  | .enter f args => ∃ Q, AFn P f args st.S Q ∧ ∀ r S' mv, Q r S' mv → K (St.put ⟨scT mv st.tm, S', mv ++ st.mv⟩ d r)
  | .stuck => False
def stepP (P : Program) (o : Oper) (st : St) (K : St → Prop) : Prop := afterR P (opR (tiOf P) st.tm st.S o.op) o.dst st K
section
variable {P : Program} {ok : Nat → Prop} {w0 : World} {μ0 : Nat → Nat} {S0 : Store} {st : St} {μ : Nat → Nat} {a : Act} {w : World}
theorem rep_undef (ok : Nat → Prop) (w : World) (μ : Nat → Nat) (S : Store) : Rep ok w μ S (.tup []) undef := .tup [] [] rfl (fun j x v hj _ => by simp at hj)
theorem onT_new {T : TypeId → Option TI} {t : TypeId} {f : TI → OpR} {φ : Prop} {ob : AObj} {mk : Nat → AV} (h : onT T t f = .new φ ob mk) : ∃ ti, T t = some ti ∧ f ti = .new φ ob mk := by
  unfold onT at h
  split at h
  · exact ⟨_, by assumption, h⟩
  · cases h
theorem onT_set {T : TypeId → Option TI} {t : TypeId} {f : TI → OpR} {φ : Prop} {i : Nat} {ob : AObj} (h : onT T t f = .set φ i ob) : ∃ ti, T t = some ti ∧ f ti = .set φ i ob := by
  unfold onT at h
  split at h
  · exact ⟨_, by assumption, h⟩
  · cases h
theorem onT_ne_app {T : TypeId → Option TI} {t : TypeId} {f : TI → OpR} {φ : Prop} {i : Nat} {ob : AObj} {v : AV} (h : onT T t f = .app φ i ob v) : ∃ ti, T t = some ti ∧ f ti = .app φ i ob v := by
  unfold onT at h
  split at h
  · exact ⟨_, by assumption, h⟩
  · cases h
theorem onT_enter {T : TypeId → Option TI} {t : TypeId} {f : TI → OpR} {g : FuncId} {args : List AV} (h : onT T t f = .enter g args) : ∃ ti, T t = some ti ∧ f ti = .enter g args := by
  unfold onT at h
  split at h
  · exact ⟨_, by assumption, h⟩
  · cases h
/-- No function of the machine's but the calls' own enters, appends, stores. -/
theorem loadR_val (ti : TI) (S : Store) (x : AV) : (∃ φ v, loadR ti S x = .val φ v) ∨ loadR ti S x = .stuck := by
  unfold loadR
  (repeat' split) <;> first | exact .inl ⟨_, _, rfl⟩ | exact .inr rfl
theorem fieldR_val (ti : TI) (f : Nat) (x : AV) : (∃ φ v, fieldR ti f x = .val φ v) ∨ fieldR ti f x = .stuck := by
  unfold fieldR
  (repeat' split) <;> first | exact .inl ⟨_, _, rfl⟩ | exact .inr rfl
theorem indexR_val (T : TypeId → Option TI) (ti : TI) (x ix : AV) : (∃ φ v, indexR T ti x ix = .val φ v) ∨ indexR T ti x ix = .stuck := by
  unfold indexR
  (repeat' split) <;> first | exact .inl ⟨_, _, rfl⟩ | exact .inr rfl
theorem sliceR_val (T : TypeId → Option TI) (tm : List AV) (ti : TI) (x : AV) (lo hi mx : Option Operand) : (∃ φ v, sliceR T tm ti x lo hi mx = .val φ v) ∨ sliceR T tm ti x lo hi mx = .stuck := by
  unfold sliceR
  (repeat' split) <;> first | exact .inl ⟨_, _, rfl⟩ | exact .inr rfl
theorem binI_val (op : BinOp) (k : IntKind) (a b : Int) : (∃ φ v, binI op k a b = .val φ v) ∨ binI op k a b = .stuck := by
  cases op <;> first | exact .inl ⟨_, _, rfl⟩ | exact .inr rfl
theorem binR_val (op : BinOp) (sh : Option Sh) (x y : AV) : (∃ φ v, binR op sh x y = .val φ v) ∨ binR op sh x y = .stuck := by
  unfold binR
  (repeat' split) <;> first | exact .inl ⟨_, _, rfl⟩ | exact .inr rfl | exact binI_val _ _ _ _
theorem binT_val (op : BinOp) (ti : Option TI) (x y : AV) : (∃ φ v, binT op ti x y = .val φ v) ∨ binT op ti x y = .stuck := by
  unfold binT
  (repeat' split) <;> first | exact .inl ⟨_, _, rfl⟩ | exact .inr rfl | exact binR_val _ _ _ _
theorem lenR_val (x : AV) : (∃ φ v, lenR x = .val φ v) ∨ lenR x = .stuck := by
  unfold lenR
  (repeat' split) <;> first | exact .inl ⟨_, _, rfl⟩ | exact .inr rfl
theorem lenOpR_val (T : TypeId → Option TI) (t : TypeId) (x : AV) : (∃ φ v, lenOpR T t x = .val φ v) ∨ lenOpR T t x = .stuck := by
  unfold lenOpR
  (repeat' split) <;> first | exact .inr rfl | exact lenR_val _
theorem maxR_val (lt : Bool) (x y : AV) : (∃ φ v, maxR lt x y = .val φ v) ∨ maxR lt x y = .stuck := by
  unfold maxR
  (repeat' split) <;> first | exact .inl ⟨_, _, rfl⟩ | exact .inr rfl
theorem convR_val (T : TypeId → Option TI) (S : Store) (s d : TypeId) (x : AV) : (∃ φ v, convR T S s d x = .val φ v) ∨ convR T S s d x = .stuck := by
  unfold convR
  (repeat' split) <;> first | exact .inl ⟨_, _, rfl⟩ | exact .inr rfl
theorem buildR_val (T : TypeId → Option TI) (tm : List AV) (t : TypeId) (parts : Array (Nat × Operand)) : (∃ φ v, buildR T tm t parts = .val φ v) ∨ buildR T tm t parts = .stuck := by
  unfold buildR
  (repeat' split) <;> first | exact .inl ⟨_, _, rfl⟩ | exact .inr rfl
theorem RelT.evs (h : RelT ok w0 μ0 S0 st μ a w) : ∀ x, Rep ok w μ st.S (ev st.tm x) (a.eval x) := ev_sound h
theorem made_step (h : RelT ok w0 μ0 S0 st μ a w) {o : Oper} {s : Sem Value} {ob : AObj} {mk : Nat → AV} (hm : Made P ok s w μ st.S ob mk) (he : (execOp a.eval o).run P w = (s.run P w).andThen fun v w' => .ok (.value v) w')
    {K : St → Prop} (hK : K (St.put ⟨st.tm, st.S ++ [some ob], st.mv⟩ o.dst (mk st.S.length))) {Q : Exit → Act → World → Prop} :
    o.wp P a w (fun a' w' => ∃ st' μ', K st' ∧ RelT ok w0 μ0 S0 st' μ' a' w') Q := by
  obtain ⟨r, w', hr, md, hz, hsiz, hb, hrep⟩ := hm
  unfold Oper.wp
  rw [he, hr]
  simp only [Result.andThen_ok, Oper.upon_value]
  exact ⟨_, _, hK, (h.new ob md hz hsiz hb).put o.dst (hrep _ _ _ (by simp) (by simp))⟩
theorem new_sound (h : RelT ok w0 μ0 S0 st μ a w) (o : Oper) {φ : Prop} {ob : AObj} {mk : Nat → AV} (hr : opR (tiOf P) st.tm st.S o.op = .new φ ob mk) (hφ : φ) :
    ∃ s : Sem Value, Made P ok s w μ st.S ob mk ∧ (execOp a.eval o).run P w = (s.run P w).andThen fun v w' => .ok (.value v) w' := by
  obtain ⟨dst, op, type, pos, after, guard⟩ := o
  have hev := h.evs
  simp only at hr
  have nov : ∀ {x : OpR}, ((∃ φ v, x = .val φ v) ∨ x = .stuck) → x ≠ .new φ ob mk := by
    rintro x (⟨φ, v, rfl⟩ | rfl) e <;> cases e
  cases op <;> simp only [opR] at hr <;> try (cases hr; done)
  case pick c x y => split at hr <;> cases hr
  case load t x => obtain ⟨ti, ht, hr⟩ := onT_new hr; exact absurd hr (nov (loadR_val _ _ _))
  case store t x y =>
    obtain ⟨ti, ht, hr⟩ := onT_new hr
    unfold storeR at hr
    split at hr <;> try (cases hr; done)
    split at hr <;> cases hr
  case fieldAddr t x f => obtain ⟨ti, ht, hr⟩ := onT_new hr; exact absurd hr (nov (fieldR_val _ _ _))
  case indexAddr t x ix => obtain ⟨ti, ht, hr⟩ := onT_new hr; exact absurd hr (nov (indexR_val _ _ _ _))
  case binOp op t x y _ => exact absurd hr (nov (binT_val _ _ _ _))
  case unOp op t x => split at hr <;> cases hr
  case nilCheck x => split at hr <;> cases hr
  case extract x i => split at hr <;> cases hr
  case makeFunc fn first caps =>
    cases fn <;> simp only at hr <;> try (cases hr; done)
    split at hr <;> cases hr
  case convert s d x => exact absurd hr (nov (convR_val _ _ _ _ _))
  case slice t x lo hi mx =>
    split at hr
    · rename_i m z xs hx
      unfold cutR at hr
      split at hr <;> try (cases hr; done)
      rename_i ti ht
      split at hr <;> try (cases hr; done)
      rename_i e hs
      split at hr <;> try (cases hr; done)
      rename_i te he
      split at hr <;> try (cases hr; done)
      rename_i hx'
      split at hr <;> try (cases hr; done)
      rename_i k h' k' mm hh hm
      injection hr with e1 e2 e3
      subst e1; subst e2; subst e3
      obtain ⟨rfl, rfl, hz⟩ := hφ
      have hu := hev x
      rw [hx] at hu
      have h1 := hev hx'
      have h2 := hev m
      rw [hh] at h1; rw [hm] at h2
      refine ⟨_, cut_made ht hs he hu k k', ?_⟩
      generalize hua : a.eval hx' = ua at h1
      generalize hub : a.eval m = ub at h2
      cases h1; cases h2
      simp [execOp, hua, hub]
    · obtain ⟨ti, ht, hr⟩ := onT_new hr; exact absurd hr (nov (sliceR_val _ _ _ _ _ _ _))
  case alloc t =>
    obtain ⟨ti, ht, hr⟩ := onT_new hr
    injection hr with e1 e2 e3
    subst e2; subst e3
    exact ⟨_, alloc_made ht, by simp [execOp]⟩
  case box t x =>
    injection hr with e1 e2 e3
    subst e1; subst e2; subst e3
    exact ⟨_, box_made (hev x) hφ.1 hφ.2 t, by simp [execOp]⟩
  case makeSlice t l c =>
    unfold makeR at hr
    split at hr <;> try (cases hr; done)
    rename_i ti ht
    split at hr <;> try (cases hr; done)
    rename_i e hs
    split at hr <;> try (cases hr; done)
    rename_i te he
    split at hr <;> try (cases hr; done)
    rename_i n m hn hm
    injection hr with e1 e2 e3
    subst e1; subst e2; subst e3
    obtain ⟨rfl, h0, h1, h2⟩ := hφ
    have hl := hev l; have hc := hev c
    rw [hn] at hl; rw [hm] at hc
    refine ⟨_, make_made ht hs he n h0 h1 h2, ?_⟩
    generalize hul : a.eval l = ul at hl
    generalize huc : a.eval c = uc at hc
    cases hl; cases hc
    simp [execOp, hul, huc]
  case buildSlice t len parts =>
    unfold buildSliceR at hr
    split at hr <;> try (cases hr; done)
    rename_i ti ht
    split at hr <;> try (cases hr; done)
    rename_i e hs
    split at hr <;> try (cases hr; done)
    rename_i te he
    injection hr with e1 e2 e3
    subst e1; subst e2; subst e3
    exact ⟨_, buildSlice_made hev ht hs he len parts hφ.1 hφ.2.1 hφ.2.2, by simp [execOp]⟩
  case build t parts => exact absurd hr (nov (buildR_val _ _ _ _))
  case call c =>
    obtain ⟨callee, args, ats⟩ := c
    unfold callR at hr
    simp only at hr
    split at hr
    · exact absurd hr (nov (lenOpR_val _ _ _))
    · rename_i x y t t' ha hat
      obtain rfl : args = #[x, y] := by rw [← Array.toList_inj]; simpa using ha
      obtain rfl : ats = #[t, t'] := by rw [← Array.toList_inj]; simpa using hat
      split at hr
      · rename_i htt
        subst htt
        unfold appendR at hr
        split at hr <;> try (cases hr; done)
        rename_i ti ht
        split at hr <;> try (cases hr; done)
        rename_i e hs
        split at hr <;> try (cases hr; done)
        rename_i te he
        split at hr <;> try (cases hr; done)
        rename_i ψ ys hsrc
        split at hr
        · rename_i hx
          injection hr with e1 e2 e3
          subst e1; subst e2; subst e3
          have hx' := hev x
          rw [hx] at hx'
          refine ⟨_, appendNil_made h.rs ht hs he type (hev y) hsrc hφ.1 hφ.2.1 hφ.2.2, ?_⟩
          generalize hux : a.eval x = ux at hx'
          cases hx'
          simp [execOp, resolve, invoke, builtin, hux]
        · split at hr <;> cases hr
        · cases hr
      · cases hr
    · exact absurd hr (nov (maxR_val _ _ _))
    · exact absurd hr (nov (maxR_val _ _ _))
    · split at hr <;> cases hr
    · cases hr
theorem set_sound (h : RelT ok w0 μ0 S0 st μ a w) (o : Oper) {φ : Prop} {i : Nat} {ob : AObj} (hr : opR (tiOf P) st.tm st.S o.op = .set φ i ob) (hφ : φ) :
    ∃ w' μ', (execOp a.eval o).run P w = .ok .skip w' ∧ RelT ok w0 μ0 S0 ⟨st.tm, st.S.set i (some ob), st.mv⟩ μ' a w' := by
  obtain ⟨dst, op, type, pos, after, guard⟩ := o
  have hev := h.evs
  simp only at hr
  have nov : ∀ {x : OpR}, ((∃ φ v, x = .val φ v) ∨ x = .stuck) → x ≠ .set φ i ob := by
    rintro x (⟨φ, v, rfl⟩ | rfl) e <;> cases e
  cases op <;> simp only [opR] at hr <;> try (cases hr; done)
  case pick c x y => split at hr <;> cases hr
  case load t x => obtain ⟨ti, ht, hr⟩ := onT_set hr; exact absurd hr (nov (loadR_val _ _ _))
  case store t x y =>
    obtain ⟨ti, ht, hr⟩ := onT_set hr
    obtain ⟨w', μ', h1, h2⟩ := store_sound h ht (hev x) (hev y) hr hφ
    exact ⟨w', μ', by simp [execOp, h1], h2⟩
  case fieldAddr t x f => obtain ⟨ti, ht, hr⟩ := onT_set hr; exact absurd hr (nov (fieldR_val _ _ _))
  case indexAddr t x ix => obtain ⟨ti, ht, hr⟩ := onT_set hr; exact absurd hr (nov (indexR_val _ _ _ _))
  case binOp op t x y _ => exact absurd hr (nov (binT_val _ _ _ _))
  case unOp op t x => split at hr <;> cases hr
  case nilCheck x => split at hr <;> cases hr
  case extract x i => split at hr <;> cases hr
  case makeFunc fn first caps =>
    cases fn <;> simp only at hr <;> try (cases hr; done)
    split at hr <;> cases hr
  case slice t x lo hi mx =>
    split at hr
    · unfold cutR at hr
      (repeat' split at hr) <;> cases hr
    · obtain ⟨ti, ht, hr⟩ := onT_set hr; exact absurd hr (nov (sliceR_val _ _ _ _ _ _ _))
  case convert s d x => exact absurd hr (nov (convR_val _ _ _ _ _))
  case alloc t => obtain ⟨ti, ht, hr⟩ := onT_set hr; cases hr
  case makeSlice t l c =>
    unfold makeR at hr
    split at hr <;> try (cases hr; done)
    split at hr <;> try (cases hr; done)
    split at hr <;> try (cases hr; done)
    split at hr <;> cases hr
  case buildSlice t len parts =>
    unfold buildSliceR at hr
    split at hr <;> try (cases hr; done)
    split at hr <;> try (cases hr; done)
    split at hr <;> cases hr
  case build t parts => exact absurd hr (nov (buildR_val _ _ _ _))
  case call c =>
    obtain ⟨callee, args, ats⟩ := c
    unfold callR at hr
    simp only at hr
    split at hr
    · exact absurd hr (nov (lenOpR_val _ _ _))
    · split at hr
      · unfold appendR at hr
        split at hr <;> try (cases hr; done)
        split at hr <;> try (cases hr; done)
        split at hr <;> try (cases hr; done)
        split at hr <;> try (cases hr; done)
        split at hr <;> try (cases hr; done)
        split at hr <;> cases hr
      · cases hr
    · exact absurd hr (nov (maxR_val _ _ _))
    · exact absurd hr (nov (maxR_val _ _ _))
    · split at hr <;> cases hr
    · cases hr
theorem app_sound (h : RelT ok w0 μ0 S0 st μ a w) (o : Oper) {φ : Prop} {i : Nat} {ob : AObj} {v : AV} (hr : opR (tiOf P) st.tm st.S o.op = .app φ i ob v) (hφ : φ) :
    ∃ r w' μ', (execOp a.eval o).run P w = .ok (.value r) w' ∧ RelT ok w0 μ0 S0 ⟨scT [i] st.tm, (scS [i] st.S).set i (some ob), [i] ++ st.mv⟩ μ' a w' ∧ Rep ok w' μ' ((scS [i] st.S).set i (some ob)) v r := by
  obtain ⟨dst, op, type, pos, after, guard⟩ := o
  have hev := h.evs
  simp only at hr
  have nov : ∀ {x : OpR}, ((∃ φ v, x = .val φ v) ∨ x = .stuck) → x ≠ .app φ i ob v := by
    rintro x (⟨φ, v, rfl⟩ | rfl) e <;> cases e
  cases op <;> simp only [opR] at hr <;> try (cases hr; done)
  case pick c x y => split at hr <;> cases hr
  case load t x => obtain ⟨ti, ht, hr⟩ := onT_ne_app hr; exact absurd hr (nov (loadR_val _ _ _))
  case store t x y =>
    obtain ⟨ti, ht, hr⟩ := onT_ne_app hr
    unfold storeR at hr
    split at hr <;> try (cases hr; done)
    split at hr <;> cases hr
  case fieldAddr t x f => obtain ⟨ti, ht, hr⟩ := onT_ne_app hr; exact absurd hr (nov (fieldR_val _ _ _))
  case indexAddr t x ix => obtain ⟨ti, ht, hr⟩ := onT_ne_app hr; exact absurd hr (nov (indexR_val _ _ _ _))
  case binOp op t x y _ => exact absurd hr (nov (binT_val _ _ _ _))
  case unOp op t x => split at hr <;> cases hr
  case nilCheck x => split at hr <;> cases hr
  case extract x i => split at hr <;> cases hr
  case makeFunc fn first caps =>
    cases fn <;> simp only at hr <;> try (cases hr; done)
    split at hr <;> cases hr
  case slice t x lo hi mx =>
    split at hr
    · unfold cutR at hr
      (repeat' split at hr) <;> cases hr
    · obtain ⟨ti, ht, hr⟩ := onT_ne_app hr; exact absurd hr (nov (sliceR_val _ _ _ _ _ _ _))
  case convert s d x => exact absurd hr (nov (convR_val _ _ _ _ _))
  case alloc t => obtain ⟨ti, ht, hr⟩ := onT_ne_app hr; cases hr
  case makeSlice t l c =>
    unfold makeR at hr
    split at hr <;> try (cases hr; done)
    split at hr <;> try (cases hr; done)
    split at hr <;> try (cases hr; done)
    split at hr <;> cases hr
  case buildSlice t len parts =>
    unfold buildSliceR at hr
    split at hr <;> try (cases hr; done)
    split at hr <;> try (cases hr; done)
    split at hr <;> cases hr
  case build t parts => exact absurd hr (nov (buildR_val _ _ _ _))
  case call c =>
    obtain ⟨callee, args, ats⟩ := c
    unfold callR at hr
    simp only at hr
    split at hr
    · exact absurd hr (nov (lenOpR_val _ _ _))
    · rename_i x y t t' ha hat
      obtain rfl : args = #[x, y] := by rw [← Array.toList_inj]; simpa using ha
      obtain rfl : ats = #[t, t'] := by rw [← Array.toList_inj]; simpa using hat
      split at hr
      · rename_i htt
        subst htt
        unfold appendR at hr
        split at hr <;> try (cases hr; done)
        rename_i ti ht
        split at hr <;> try (cases hr; done)
        rename_i e hs
        split at hr <;> try (cases hr; done)
        rename_i te he
        split at hr <;> try (cases hr; done)
        rename_i ψ ys hsrc
        split at hr
        · cases hr
        · rename_i i' z off len hx
          split at hr <;> try (cases hr; done)
          rename_i o ho
          injection hr with e1 e2 e3 e4
          subst e1; subst e2; subst e3; subst e4
          obtain ⟨hψ, rfl, rfl, hz, hlen, hb, hb0, hpur⟩ := hφ
          have hx' := hev x
          rw [hx] at hx'
          obtain ⟨r, w', μ', h1, h2, h3⟩ := append_own h ht hs he type hx' (hev y) hsrc hψ ho hz hlen hb hb0 hpur
          exact ⟨r, w', μ', by simp [execOp, resolve, invoke, builtin, h1], h2, h3⟩
        · cases hr
      · cases hr
    · exact absurd hr (nov (maxR_val _ _ _))
    · exact absurd hr (nov (maxR_val _ _ _))
    · split at hr <;> cases hr
    · cases hr
theorem enter_sound (h : RelT ok w0 μ0 S0 st μ a w) (o : Oper) {f : FuncId} {args : List AV} (hr : opR (tiOf P) st.tm st.S o.op = .enter f args) (hc : Callable P f) :
    ∃ vs : Array Value, (execOp a.eval o).run P w = .ok (.enter f vs) w ∧ vs.size = args.length ∧ (∀ (j : Nat) (x : AV), args[j]? = some x → Rep ok w μ st.S x (vs.getD j undef)) := by
  obtain ⟨dst, op, type, pos, after, guard⟩ := o
  have hev := h.evs
  simp only at hr
  have nov : ∀ {x : OpR}, ((∃ φ v, x = .val φ v) ∨ x = .stuck) → x ≠ .enter f args := by
    rintro x (⟨φ, v, rfl⟩ | rfl) e <;> cases e
  cases op <;> simp only [opR] at hr <;> try (cases hr; done)
  case pick c x y => split at hr <;> cases hr
  case load t x => obtain ⟨ti, ht, hr⟩ := onT_enter hr; exact absurd hr (nov (loadR_val _ _ _))
  case store t x y =>
    obtain ⟨ti, ht, hr⟩ := onT_enter hr
    unfold storeR at hr
    split at hr <;> try (cases hr; done)
    split at hr <;> cases hr
  case fieldAddr t x f => obtain ⟨ti, ht, hr⟩ := onT_enter hr; exact absurd hr (nov (fieldR_val _ _ _))
  case indexAddr t x ix => obtain ⟨ti, ht, hr⟩ := onT_enter hr; exact absurd hr (nov (indexR_val _ _ _ _))
  case binOp op t x y _ => exact absurd hr (nov (binT_val _ _ _ _))
  case unOp op t x => split at hr <;> cases hr
  case nilCheck x => split at hr <;> cases hr
  case extract x i => split at hr <;> cases hr
  case makeFunc fn first caps =>
    cases fn <;> simp only at hr <;> try (cases hr; done)
    split at hr <;> cases hr
  case slice t x lo hi mx =>
    split at hr
    · unfold cutR at hr
      (repeat' split at hr) <;> cases hr
    · obtain ⟨ti, ht, hr⟩ := onT_enter hr; exact absurd hr (nov (sliceR_val _ _ _ _ _ _ _))
  case convert s d x => exact absurd hr (nov (convR_val _ _ _ _ _))
  case alloc t => obtain ⟨ti, ht, hr⟩ := onT_enter hr; cases hr
  case makeSlice t l c =>
    unfold makeR at hr
    split at hr <;> try (cases hr; done)
    split at hr <;> try (cases hr; done)
    split at hr <;> try (cases hr; done)
    split at hr <;> cases hr
  case buildSlice t len parts =>
    unfold buildSliceR at hr
    split at hr <;> try (cases hr; done)
    split at hr <;> try (cases hr; done)
    split at hr <;> cases hr
  case build t parts => exact absurd hr (nov (buildR_val _ _ _ _))
  case call c =>
    obtain ⟨callee, cargs, ats⟩ := c
    unfold callR at hr
    simp only at hr
    split at hr
    · exact absurd hr (nov (lenOpR_val _ _ _))
    · split at hr
      · unfold appendR at hr
        split at hr <;> try (cases hr; done)
        split at hr <;> try (cases hr; done)
        split at hr <;> try (cases hr; done)
        split at hr <;> try (cases hr; done)
        split at hr <;> try (cases hr; done)
        split at hr <;> cases hr
      · cases hr
    · exact absurd hr (nov (maxR_val _ _ _))
    · exact absurd hr (nov (maxR_val _ _ _))
    · rename_i fo
      split at hr <;> try (cases hr; done)
      rename_i g caps hg
      injection hr with e1 e2
      subst e1; subst e2
      have hf := hev fo
      rw [hg] at hf
      generalize huf : a.eval fo = uf at hf
      cases hf with
      | clo _ _ vs hl hrep =>
        obtain ⟨fn, hfn, hname, hbody⟩ := hc
        refine ⟨cargs.map a.eval ++ vs.toArray, ?_, by simp [hl], ?_⟩
        · have hname' : ¬ fn.name = "runtime.NumGoroutine" := by simpa using hname
          have hbody' : ¬ fn.body = none := by intro e; simp [e] at hbody
          simp [execOp, resolve, huf, Deferred.ofValue, invoke, callFunc, hfn, hname', hbody']
        · intro j x hj
          rw [List.getElem?_append] at hj
          split at hj
          · rename_i hlt
            rw [List.getElem?_map, Option.map_eq_some_iff] at hj
            obtain ⟨y, hy, rfl⟩ := hj
            have hjl : j < cargs.size := by simpa using hlt
            have hy' : cargs[j]? = some y := by simpa using hy
            have e : (cargs.map a.eval ++ vs.toArray).getD j undef = a.eval y := by
              rw [Array.getD_eq_getD_getElem?, Array.getElem?_append_left (by simpa using hjl)]
              simp [hy']
            rw [e]
            exact hev y
          · rename_i hge
            have hjl : j - cargs.size < vs.length := by
              have := (List.getElem?_eq_some_iff.1 hj).1
              simp only [List.length_map, Array.length_toList] at this hge
              omega
            have hge' : cargs.size ≤ j := by simpa using hge
            have e : (cargs.map a.eval ++ vs.toArray).getD j undef = vs[j - cargs.size] := by
              rw [Array.getD_eq_getD_getElem?, Array.getElem?_append_right (by simpa using hge')]
              simp [hjl]
            rw [e]
            exact hrep (j - cargs.size) x _ (by simpa using hj) (List.getElem?_eq_getElem hjl)
    · cases hr
/-- One step of the machine is one operation of the model. -/
theorem step_sound (h : RelT ok w0 μ0 S0 st μ a w) (o : Oper) {K : St → Prop} (hs : stepP P o st K) {Q : Exit → Act → World → Prop} :
    o.wp P a w (fun a' w' => ∃ st' μ', K st' ∧ RelT ok w0 μ0 S0 st' μ' a' w') Q := by
  unfold stepP afterR at hs
  split at hs
  · rename_i φ v hr
    obtain ⟨r, h1, h2⟩ := val_sound h.rs h.evs o hr hs.1
    unfold Oper.wp
    rw [h1]
    exact ⟨_, _, hs.2, h.put o.dst h2⟩
  · rename_i φ ob mk hr
    obtain ⟨s, hm, he⟩ := new_sound h o hr hs.1
    exact made_step h hm he hs.2
  · rename_i φ i ob hr
    obtain ⟨w', μ', h1, h2⟩ := set_sound h o hr hs.1
    unfold Oper.wp
    rw [h1]
    exact ⟨_, _, hs.2, h2.put o.dst (rep_undef _ _ _ _)⟩
  · rename_i φ i ob v hr
    obtain ⟨r, w', μ', h1, h2, h3⟩ := app_sound h o hr hs.1
    unfold Oper.wp
    rw [h1]
    exact ⟨_, _, hs.2, h2.put o.dst h3⟩
  · rename_i f args hr
    obtain ⟨Q', hfn, hK⟩ := hs
    obtain ⟨vs, h1, hl, hrep⟩ := enter_sound h o hr hfn.1
    unfold Oper.wp
    rw [h1]
    simp only [Oper.upon_enter]
    refine (hfn.2 ok μ w vs (fun b hb => h.fr b (Nat.le_trans h.md.size hb)) h.rs hl hrep).mono ?_
    rintro e w' ⟨r, v, S', mv, μ', rfl, hQ, rs', hr', md, lv, ln, mu⟩
    exact ⟨_, _, hK r S' mv hQ, (h.hop mv rs' md lv ln mu).put o.dst hr'⟩
  · exact hs.elim
end
end
section
/-- Is an operation wanted? -/
def gd (ops : Array Oper) (tm : List AV) (o : Oper) : Option Bool :=
  match o.guard with
  | none => some true
  | some (j, want) => match (ops[j]?).bind (·.dst) with
    | some t => match tm[t]? with
      | some (.prim (.bool b)) => some (b == want)
      | some (.tup []) => some false
      | _ => none
    | none => none
def opsP (P : Program) (ops : Array Oper) : List Oper → St → (St → Prop) → Prop
  | [], st, K => K st
  | o :: r, st, K => match gd ops st.tm o with
    | none => False
    | some true => stepP P o st (fun st' => opsP P ops r st' K)
    | some false => opsP P ops r (st.put o.dst (.tup [])) K
/-- A piece of code, from a state on, comes to one of its ends, in a state of which Q holds. -/
def AWP (P : Program) (c : Code) (Q : Exit → St → Prop) (st : St) : Prop :=
  ∀ ok w0 μ0 S0 μ a w, RelT ok w0 μ0 S0 st μ a w → c.wp P (fun ex a' w' => ∃ st' μ', Q ex st' ∧ RelT ok w0 μ0 S0 st' μ' a' w') a w
section
variable {P : Program} {ok : Nat → Prop} {w0 : World} {μ0 : Nat → Nat} {S0 : Store} {st : St} {μ : Nat → Nat} {a : Act} {w : World}
theorem gd_sound (h : RelT ok w0 μ0 S0 st μ a w) {ops : Array Oper} {o : Oper} {g : Bool} (hg : gd ops st.tm o = some g) : Region.wanted o (yielded ops a.tmps) = g := by
  unfold gd at hg
  unfold Region.wanted
  split at hg
  · rename_i hn; rw [hn]; cases hg; rfl
  · rename_i j want hj
    rw [hj]
    split at hg
    · rename_i t ht
      have hy : yielded ops a.tmps j = match a.tmps[t]? with | some (.bool b) => some b | _ => none := by
        unfold yielded; rw [ht]; rfl
      split at hg
      · rename_i b hb
        have hr := h.tm t _ hb
        have hlt : t < a.tmps.size := by rw [h.sz]; exact (List.getElem?_eq_some_iff.1 hb).1
        have e : a.tmps.getD t undef = a.tmps[t] := by simp [hlt]
        rw [e] at hr
        generalize hu : a.tmps[t] = u at hr
        cases hr
        cases hg
        simp only [hy, Array.getElem?_eq_getElem hlt, hu]
        cases b <;> cases want <;> rfl
      · rename_i hb
        have hr := h.tm t _ hb
        have hlt : t < a.tmps.size := by rw [h.sz]; exact (List.getElem?_eq_some_iff.1 hb).1
        have e : a.tmps.getD t undef = a.tmps[t] := by simp [hlt]
        rw [e] at hr
        generalize hu : a.tmps[t] = u at hr
        cases hr
        cases hg
        simp only [hy, Array.getElem?_eq_getElem hlt, hu]
        rfl
      · cases hg
    · cases hg
theorem wpList_mono {ops : Array Oper} {Q : Exit → Act → World → Prop} {o : Oper} {r : List Oper} {a : Act} {w : World} {K : Act → World → Prop} (hw : Region.wanted o (yielded ops a.tmps) = true) (h : o.wp P a w K Q) (hK : ∀ a w, K a w → wpList P ops Q r a w) : wpList P ops Q (o :: r) a w := by
  unfold wpList
  rw [if_pos hw]
  exact .inl (Oper.wp_mono hK h)
theorem opsP_sound {ops : Array Oper} {Q : Exit → Act → World → Prop} {K : St → Prop} (hQ : ∀ st μ a w, K st → RelT ok w0 μ0 S0 st μ a w → Q .normal a w) :
    ∀ (l : List Oper) (st : St) (μ : Nat → Nat) (a : Act) (w : World), opsP P ops l st K → RelT ok w0 μ0 S0 st μ a w → wpList P ops Q l a w
  | [], st, μ, a, w, h, hr => hQ st μ a w h hr
  | o :: r, st, μ, a, w, h, hr => by
    simp only [opsP] at h
    split at h
    · exact h.elim
    · rename_i hg
      have hw := gd_sound hr hg
      refine wpList_mono hw (step_sound hr o h (Q := Q)) ?_
      rintro a' w' ⟨st', μ', hK, hr'⟩
      exact opsP_sound hQ r st' μ' a' w' hK hr'
    · rename_i hg
      have hw := gd_sound hr hg
      unfold wpList
      rw [if_neg (by rw [hw]; simp)]
      exact opsP_sound hQ r _ μ _ w h (hr.put o.dst (rep_undef _ _ _ _))
theorem awp_region {id : Nat} {ops : List Oper} {Q : Exit → St → Prop} (h : opsP P ops.toArray ops st (fun st' => Q .normal st')) : AWP P (.region id ops.toArray false) Q st := by
  intro ok w0 μ0 S0 μ a w hr
  refine wp_region_lit (opsP_sound (K := fun st' => Q .normal st') ?_ ops st μ a w h hr)
  intro st μ a w hk hr
  exact ⟨st, μ, hk, hr⟩
theorem AWP.mono {c : Code} {Q Q' : Exit → St → Prop} (h : AWP P c Q st) (hq : ∀ e s, Q e s → Q' e s) : AWP P c Q' st :=
  fun ok w0 μ0 S0 μ a w hr => Code.wp_mono (fun e a' w' ⟨s, m, h1, h2⟩ => ⟨s, m, hq e s h1, h2⟩) (h ok w0 μ0 S0 μ a w hr)
/-- Some temporaries are forgotten. -/
inductive WL : List AV → List AV → Prop
  | nil : WL [] []
  | same (x : AV) (xs ys : List AV) (h : WL xs ys) : WL (x :: xs) (x :: ys)
  | eq (x y : AV) (xs ys : List AV) (e : x = y) (h : WL xs ys) : WL (x :: xs) (y :: ys)
  | any (x : AV) (xs ys : List AV) (h : WL xs ys) : WL (x :: xs) (.any :: ys)
theorem WL.len {xs ys : List AV} (h : WL xs ys) : ys.length = xs.length := by
  induction h with
  | nil => rfl
  | _ => simp_all
theorem WL.get {xs ys : List AV} (h : WL xs ys) : ∀ (j : Nat) (y : AV), ys[j]? = some y → ∃ x, xs[j]? = some x ∧ (y = x ∨ y = .any) := by
  induction h with
  | nil => intro j y hj; simp at hj
  | same x xs ys h ih =>
    intro j y hj
    cases j with
    | zero => simp at hj; subst hj; exact ⟨x, rfl, .inl rfl⟩
    | succ j => simp at hj; simpa using ih j y hj
  | eq x y xs ys e h ih =>
    intro j y' hj
    cases j with
    | zero => simp at hj; subst hj; exact ⟨x, rfl, .inl e.symm⟩
    | succ j => simp at hj; simpa using ih j y' hj
  | any x xs ys h ih =>
    intro j y hj
    cases j with
    | zero => simp at hj; subst hj; exact ⟨x, rfl, .inr rfl⟩
    | succ j => simp at hj; simpa using ih j y hj
theorem RelT.wl (h : RelT ok w0 μ0 S0 st μ a w) {tm : List AV} (hw : WL st.tm tm) : RelT ok w0 μ0 S0 ⟨tm, st.S, st.mv⟩ μ a w := by
  refine ⟨h.rs, h.fr, h.df, by rw [hw.len]; exact h.sz, ?_, h.md, h.lv, h.ln, h.mu⟩
  intro t y hy
  obtain ⟨x, hx, rfl | rfl⟩ := hw.get t y hy
  · exact h.tm t _ hx
  · exact .any _
theorem awp_seq {x y : Code} {Q : Exit → St → Prop} (h : AWP P x (fun ex s => match ex with | .normal => AWP P y Q s | e => Q e s) st) : AWP P (.seq x y) Q st := by
  intro ok w0 μ0 S0 μ a w hr
  refine wp_seq (Code.wp_mono ?_ (h ok w0 μ0 S0 μ a w hr))
  rintro e a' w' ⟨s, m, h1, h2⟩
  cases e with
  | normal => exact h1 ok w0 μ0 S0 m a' w' h2
  | _ => exact ⟨s, m, h1, h2⟩
theorem awp_skip {Q : Exit → St → Prop} (h : Q .normal st) : AWP P .skip Q st := fun ok w0 μ0 S0 μ a w hr => wp_skip ⟨st, μ, h, hr⟩
theorem awp_ret {Q : Exit → St → Prop} (h : Q .ret st) : AWP P .ret Q st := fun ok w0 μ0 S0 μ a w hr => wp_ret ⟨st, μ, h, hr⟩
theorem awp_exit {id : Nat} {Q : Exit → St → Prop} (h : Q (.exit id) st) : AWP P (.exit id) Q st := fun ok w0 μ0 S0 μ a w hr => wp_exit ⟨st, μ, h, hr⟩
def inBlk (id : Nat) (Q : Exit → St → Prop) : Exit → St → Prop
  | .exit id', s => if id' = id then Q .normal s else Q (.exit id') s
  | e, s => Q e s
theorem awp_block {id : Nat} {c : Code} {Q : Exit → St → Prop} (h : AWP P c (inBlk id Q) st) : AWP P (.block id c) Q st := by
  intro ok w0 μ0 S0 μ a w hr
  refine wp_block (Code.wp_mono ?_ (h ok w0 μ0 S0 μ a w hr))
  rintro e a' w' ⟨s, m, h1, h2⟩
  cases e with
  | exit id' =>
    simp only [inBlk] at h1
    simp only [Exit.inBlock]
    split <;> rename_i hid <;> simp only [hid, if_true, if_false] at h1 <;> exact ⟨s, m, h1, h2⟩
  | _ => exact ⟨s, m, h1, h2⟩
theorem awp_cond {c : Operand} {x y : Code} {Q : Exit → St → Prop} {b : Bool} (hc : ev st.tm c = .prim (.bool b)) (h1 : b = true → AWP P x Q st) (h2 : b = false → AWP P y Q st) : AWP P (.cond c x y) Q st := by
  intro ok w0 μ0 S0 μ a w hr
  have hv := hr.evs c
  rw [hc] at hv
  generalize hu : a.eval c = u at hv
  cases hv
  exact wp_cond_split hu (fun e => h1 e ok w0 μ0 S0 μ a w hr) (fun e => h2 e ok w0 μ0 S0 μ a w hr)
/-- Code without loops and drawn regions, all at once; those are left as they are. -/
def codeP (P : Program) : Code → (Exit → St → Prop) → St → Prop
  | .skip, Q, st => Q .normal st
  | .ret, Q, st => Q .ret st
  | .exit id, Q, st => Q (.exit id) st
  | .region id ops false, Q, st => opsP P ops ops.toList st (fun st' => Q .normal st')
  | .seq x y, Q, st => codeP P x (fun ex s => match ex with | .normal => codeP P y Q s | e => Q e s) st
  | .block id c, Q, st => codeP P c (inBlk id Q) st
  | .cond c x y, Q, st => match ev st.tm c with
    | .prim (.bool true) => codeP P x Q st
    | .prim (.bool false) => codeP P y Q st
    | _ => False
  | c, Q, st => AWP P c Q st
theorem codeP_sound : ∀ (c : Code) (Q : Exit → St → Prop) (st : St), codeP P c Q st → AWP P c Q st
  | .skip, Q, st, h => awp_skip h
  | .ret, Q, st, h => awp_ret h
  | .exit id, Q, st, h => awp_exit h
  | .region id ops false, Q, st, h => by
    have := awp_region (id := id) (ops := ops.toList) (Q := Q) (P := P) (st := st) (by simpa [codeP] using h)
    simpa using this
  | .region id ops true, Q, st, h => h
  | .seq x y, Q, st, h => awp_seq ((codeP_sound x _ st h).mono fun e s hs => by
      cases e with
      | normal => exact codeP_sound y Q s hs
      | _ => exact hs)
  | .block id c, Q, st, h => awp_block (codeP_sound c _ st h)
  | .cond c x y, Q, st, h => by
    simp only [codeP] at h
    split at h
    · rename_i hb
      exact awp_cond hb (fun _ => codeP_sound x Q st h) (fun e => by cases e)
    · rename_i hb
      exact awp_cond hb (fun e => by cases e) (fun _ => codeP_sound y Q st h)
    · exact h.elim
  | .loop c, Q, st, h => h
  | .rangeFunc .., Q, st, h => h
  | .scope c, Q, st, h => h
  | .label l, Q, st, h => h
  | .goto l, Q, st, h => h
  | .refuse s, Q, st, h => h
end
end
section
inductive All2 (R : AV → AV → Prop) : List AV → List AV → Prop
  | nil : All2 R [] []
  | cons (x y : AV) (xs ys : List AV) (h : R x y) (t : All2 R xs ys) : All2 R (x :: xs) (y :: ys)
theorem All2.len {R : AV → AV → Prop} {xs ys : List AV} (h : All2 R xs ys) : ys.length = xs.length := by
  induction h with
  | nil => rfl
  | cons => simp_all
theorem All2.get {R : AV → AV → Prop} {xs ys : List AV} (h : All2 R xs ys) : ∀ (j : Nat) (y : AV), ys[j]? = some y → ∃ x, xs[j]? = some x ∧ R x y := by
  induction h with
  | nil => intro j y hj; simp at hj
  | cons x y xs ys h t ih =>
    intro j y' hj
    cases j with
    | zero => simp at hj; subst hj; exact ⟨x, rfl, h⟩
    | succ j => simp at hj; simpa using ih j y' hj
/-- An element that is a datum. -/
inductive IsD : AV → D → Prop
  | prim (v : Value) : IsD (.prim v) (.prim v)
  | sl (z : Nat) (xs : List D) : IsD (.sl z xs) (.sl z xs)
  | agg (xs : List AV) (ds : List D) (h : xs = ds.map D.av0) (hs : ∀ d ∈ ds, d.scalar = true) : IsD (.agg xs) (.agg ds)
inductive IsDs : List AV → List D → Prop
  | nil : IsDs [] []
  | cons (x : AV) (d : D) (xs : List AV) (ds : List D) (h : IsD x d) (t : IsDs xs ds) : IsDs (x :: xs) (d :: ds)
theorem IsDs.len {xs : List AV} {ds : List D} (h : IsDs xs ds) : ds.length = xs.length := by
  induction h with
  | nil => rfl
  | cons => simp_all
theorem IsDs.get {xs : List AV} {ds : List D} (h : IsDs xs ds) : ∀ (j : Nat) (d : D), ds[j]? = some d → ∃ x, xs[j]? = some x ∧ IsD x d := by
  induction h with
  | nil => intro j y hj; simp at hj
  | cons x d xs ds h t ih =>
    intro j y' hj
    cases j with
    | zero => simp at hj; subst hj; exact ⟨x, rfl, h⟩
    | succ j => simp at hj; simpa using ih j y' hj
theorem isDs_map {α : Type} (f : α → AV) (g : α → D) (h : ∀ x, IsD (f x) (g x)) : ∀ l : List α, IsDs (l.map f) (l.map g)
  | [] => .nil
  | x :: l => .cons _ _ _ _ (h x) (isDs_map f g h l)
/-- What a contract takes for a scalar of the machine ('b': slices of own objects too). -/
inductive Arg0 (S : Store) (b : Bool) : AV → AV → Prop
  | same (x : AV) (h : x.pur0 = true) : Arg0 S b x x
  | nil (z : Nat) (hz : 0 < z) : Arg0 S b (.prim (.slice none 0 0)) (.sl z [])
  | own (i z off len : Nat) (o : AObj) (ds : List D) (hb : b = true) (ho : getO S i = some o) (hz : o.z = z) (hl : off + len ≤ o.es.length) (h : IsDs ((o.es.drop off).take len) ds) : Arg0 S b (.own i z off len) (.sl z ds)
inductive Arg1 (S : Store) (b : Bool) : AV → AV → Prop
  | of0 (x y : AV) (h : Arg0 S b x y) : Arg1 S b x y
  | ref (i z k sub : Nat) (o : AObj) (ds : List D) (hb : b = true) (ho : getO S i = some o) (hz : o.z = z) (hk : k < o.es.length) (hs : sub < z) (h : All2 (Arg0 S b) ((o.es.getD k .any).cells.drop sub) (ds.map D.av0)) (hd : ∀ d ∈ ds, d.scalar = true) : Arg1 S b (.ref i z k sub) (.ro ds)
inductive Arg (S : Store) (b : Bool) : AV → AV → Prop
  | of1 (x y : AV) (h : Arg1 S b x y) : Arg S b x y
  | agg (xs ys : List AV) (h : All2 (Arg0 S b) xs ys) : Arg S b (.agg xs) (.agg ys)
  | clo (g : FuncId) (xs ys : List AV) (h : All2 (Arg1 S b) xs ys) : Arg S b (.clo g xs) (.clo g ys)
inductive ArgT (S : Store) (b : Bool) : AV → AV → Prop
  | of (x y : AV) (h : Arg S b x y) : ArgT S b x y
  | tup (xs ys : List AV) (h : All2 (Arg S b) xs ys) : ArgT S b (.tup xs) (.tup ys)
section
variable {P : Program} {ok : Nat → Prop} {w : World} {μ : Nat → Nat} {S : Store}
theorem not_live_nil (μ : Nat → Nat) (b : Nat) : ¬ liveB [] μ b := by rintro ⟨i, o, h, _⟩; simp at h
theorem isD_cells {x : AV} {d : D} (h : IsD x d) : d.cells.length = x.cells.length ∧ (∀ y ∈ d.cells, y.scalar = true) ∧ ∀ (j : Nat) (e : D), d.cells[j]? = some e → x.cells[j]? = some e.av0 := by
  cases h with
  | prim v => exact ⟨rfl, by simp [D.cells, D.scalar], fun j e hj => by cases j <;> simp_all [D.cells, AV.cells, D.av0]; subst hj; rfl⟩
  | sl z xs => exact ⟨rfl, by simp [D.cells, D.scalar], fun j e hj => by cases j <;> simp_all [D.cells, AV.cells, D.av0]; subst hj; rfl⟩
  | agg xs ds h hs =>
    subst h
    exact ⟨by simp [D.cells, AV.cells], hs, fun j e hj => by simp only [D.cells] at hj; simp [AV.cells, hj]⟩
theorem av0_repD {ok' : Nat → Prop} {d : D} {v : Value} (hs : d.scalar = true) (hok : ∀ b, ok b → ¬ liveB S μ b → ok' b) (h : Rep ok w μ S d.av0 v) : RepD w ok' d v := by
  cases d with
  | prim u => cases h with | prim _ h1 => exact .prim _ h1
  | sl z xs => cases h with | sl _ _ _ h => exact h.mono (fun ad u _ hc => hc) (fun ad u hb _ => hok _ hb.1 hb.2)
  | agg xs => simp [D.scalar] at hs
theorem Arg0.sound (rs : RelS ok w μ S) {b : Bool} {ok' : Nat → Prop} (h1 : ∀ c, ok c → ¬ liveB S μ c → ok' c) (h2 : b = true → ∀ c, liveB S μ c → ok' c) {x y : AV} {v : Value} (ha : Arg0 S b x y) (hr : Rep ok w μ S x v) : Rep ok' w μ [] y v := by
  have hd : ∀ {d : D} {u : Value}, RepD w (fun c => ok c ∧ ¬ liveB S μ c) d u → RepD w (fun c => ok' c ∧ ¬ liveB [] μ c) d u := fun h =>
    h.mono (fun ad u _ hc => hc) (fun ad u hc _ => ⟨h1 _ hc.1 hc.2, not_live_nil _ _⟩)
  cases ha with
  | same _ h =>
    cases hr with
    | prim _ h' => exact .prim _ h'
    | sl z xs _ h' => exact .sl z xs v (hd h')
    | ro xs ad f hsp hne hb hc hd' => exact .ro xs ad f hsp hne ⟨h1 _ hb.1 hb.2, not_live_nil _ _⟩ hc (fun j y hj => hd (hd' j y hj))
    | junk _ h' => exact .junk _ h'
    | _ => simp [AV.pur0] at h
  | nil z hz => cases hr with | prim _ _ => exact .sl _ _ _ (.sl z [] 0 none 0 default (fun _ _ => undef) rfl (Nat.le_refl _) (fun h => absurd rfl h) hz (fun i x hi => by simp at hi) (fun i x j y hi => by simp at hi) (fun i x j y hi => by simp at hi))
  | own i z off len o ds hb ho hz hl h =>
    subst hz
    have hi := getO_some ho
    obtain ⟨hz0, hsiz⟩ := rs.siz i o hi
    have hlen : ds.length = len := by rw [h.len, List.length_take, List.length_drop]; omega
    cases hr with
    | own0 _ _ _ A hi' =>
      have : ds = [] := List.eq_nil_of_length_eq_zero hlen
      subst this
      exact .sl _ _ _ (.sl _ [] 0 A 0 default (fun _ _ => undef) rfl (Nat.le_refl _) (fun h => absurd rfl h) hz0 (fun i x hi => by simp at hi) (fun i x j y hi => by simp at hi) (fun i x j y hi => by simp at hi))
    | own _ _ _ _ c cs ty hi' h0 hc hb' hsz =>
      have hne : o.es ≠ [] := by intro e; simp [e] at hl; omega
      have hlive : liveB S μ (μ i) := ⟨i, o, hi, hne, rfl⟩
      have hget : ∀ (k : Nat) (d : D), ds[k]? = some d → k < len ∧ ∃ x, o.es[off + k]? = some x ∧ o.es.getD (off + k) .any = x ∧ IsD x d := by
        intro k d hk
        obtain ⟨x, hx, hd'⟩ := h.get k d hk
        rw [List.getElem?_take] at hx
        split at hx
        · rename_i hlt
          rw [List.getElem?_drop] at hx
          exact ⟨hlt, x, hx, by simp [List.getD, hx], hd'⟩
        · cases hx
      refine .sl _ _ _ (.sl _ ds len _ c ⟨μ i, off * o.z, none⟩ (fun k j => (w.cell? ⟨μ i, (off + k) * o.z + j, none⟩).getD undef) hlen.symm (by omega) (fun _ => ⟨rfl, ⟨h2 hb _ hlive, not_live_nil _ _⟩, rfl⟩) hz0 ?_ ?_ ?_)
      · intro k d hk
        obtain ⟨hlt, x, hx, _, hd'⟩ := hget k d hk
        obtain ⟨c1, c2, _⟩ := isD_cells hd'
        exact ⟨by rw [c1]; exact (hsiz x (List.mem_of_getElem? hx)).1, c2⟩
      · intro k d j e hk hj
        obtain ⟨hlt, x, hx, _, hd'⟩ := hget k d hk
        obtain ⟨c1, _, _⟩ := isD_cells hd'
        have hjz : j < o.z := by rw [← (hsiz x (List.mem_of_getElem? hx)).1, ← c1]; exact (List.getElem?_eq_some_iff.1 hj).1
        obtain ⟨_, v, _, hv, _⟩ := rs.cellAt hi (k := off + k) (j := j) (by omega) hjz
        rw [Addr.add_lit, ← Nat.add_assoc, ← Nat.add_mul, hv]
        rfl
      · intro k d j e hk hj
        obtain ⟨hlt, x, hx, hx', hd'⟩ := hget k d hk
        obtain ⟨c1, c2, c3⟩ := isD_cells hd'
        have hjz : j < o.z := by rw [← (hsiz x (List.mem_of_getElem? hx)).1, ← c1]; exact (List.getElem?_eq_some_iff.1 hj).1
        obtain ⟨y, v, hy, hv, hr, _⟩ := rs.cellAt hi (k := off + k) (j := j) (by omega) hjz
        rw [hx', c3 j e hj] at hy
        cases hy
        rw [hv]
        exact av0_repD (c2 e (List.mem_of_getElem? hj)) (fun c hc hl => ⟨h1 c hc hl, not_live_nil _ _⟩) hr
theorem Arg1.sound (rs : RelS ok w μ S) {b : Bool} {ok' : Nat → Prop} (h1 : ∀ c, ok c → ¬ liveB S μ c → ok' c) (h2 : b = true → ∀ c, liveB S μ c → ok' c) {x y : AV} {v : Value} (ha : Arg1 S b x y) (hr : Rep ok w μ S x v) : Rep ok' w μ [] y v := by
  cases ha with
  | of0 _ _ h => exact h.sound rs h1 h2 hr
  | ref i z k sub o ds hb ho hz hk hs h hd =>
    subst hz
    have hi := getO_some ho
    have hne : o.es ≠ [] := by intro e; simp [e] at hk
    have hlive : liveB S μ (μ i) := ⟨i, o, hi, hne, rfl⟩
    cases hr with
    | ref _ _ _ _ hi' =>
      have hcell : ∀ (j : Nat) (d : D), ds[j]? = some d → ∃ y v, w.cell? ⟨μ i, k * o.z + (sub + j), none⟩ = some v ∧ Rep ok w μ S y v ∧ Arg0 S b y d.av0 := by
        intro j d hj
        obtain ⟨y, hy, ha⟩ := h.get j d.av0 (by simp [hj])
        rw [List.getElem?_drop] at hy
        have hjz : sub + j < o.z := by
          rw [← ((rs.siz i o hi).2 (o.es.getD k .any) (by simp [List.getD, List.getElem?_eq_getElem hk])).1]
          exact (List.getElem?_eq_some_iff.1 hy).1
        obtain ⟨y', v, hy', hv, hr, _⟩ := rs.cellAt hi hk hjz
        rw [hy] at hy'
        cases hy'
        exact ⟨y, v, hv, hr, ha⟩
      have hlen : 0 < ds.length := by
        have e := h.len
        rw [List.length_map, List.length_drop, ((rs.siz i o hi).2 (o.es.getD k .any) (by simp [List.getD, List.getElem?_eq_getElem hk])).1] at e
        omega
      refine .ro ds ⟨μ i, k * o.z + sub, none⟩ (fun j => (w.cell? ⟨μ i, k * o.z + (sub + j), none⟩).getD undef) rfl hlen ⟨h2 hb _ hlive, not_live_nil _ _⟩ ?_ ?_
      · intro j d hj
        obtain ⟨y, v, hv, _⟩ := hcell j d hj
        refine ⟨hd d (List.mem_of_getElem? hj), ?_⟩
        rw [Addr.add_lit, Nat.add_assoc, hv]
        rfl
      · intro j d hj
        obtain ⟨y, v, hv, hr, ha⟩ := hcell j d hj
        rw [hv]
        exact av0_repD (S := []) (μ := μ) (hd d (List.mem_of_getElem? hj)) (fun c hc hl => ⟨hc, hl⟩) (ha.sound rs h1 h2 hr)
theorem Arg.sound (rs : RelS ok w μ S) {b : Bool} {ok' : Nat → Prop} (h1 : ∀ c, ok c → ¬ liveB S μ c → ok' c) (h2 : b = true → ∀ c, liveB S μ c → ok' c) {x y : AV} {v : Value} (ha : Arg S b x y) (hr : Rep ok w μ S x v) : Rep ok' w μ [] y v := by
  cases ha with
  | of1 _ _ h => exact h.sound rs h1 h2 hr
  | agg xs ys h =>
    cases hr with
    | agg _ vs hl hs hr =>
      refine .agg ys vs (by rw [h.len]; exact hl) ?_ ?_
      · intro y hy
        obtain ⟨j, hj, rfl⟩ := List.mem_iff_getElem.1 hy
        obtain ⟨x, hx, ha⟩ := h.get j _ (List.getElem?_eq_getElem hj)
        generalize ys[j] = y at ha
        cases ha with
        | same _ hp => exact hs _ (List.mem_of_getElem? hx)
        | nil => rfl
        | own => rfl
      · intro j y v hj hv
        obtain ⟨x, hx, ha⟩ := h.get j y hj
        exact ha.sound rs h1 h2 (hr j x v hx hv)
  | clo g xs ys h =>
    cases hr with
    | clo _ _ vs hl hr =>
      refine .clo g ys vs (by rw [h.len]; exact hl) ?_
      intro j y v hj hv
      obtain ⟨x, hx, ha⟩ := h.get j y hj
      exact ha.sound rs h1 h2 (hr j x v hx hv)
theorem ArgT.sound (rs : RelS ok w μ S) {b : Bool} {ok' : Nat → Prop} (h1 : ∀ c, ok c → ¬ liveB S μ c → ok' c) (h2 : b = true → ∀ c, liveB S μ c → ok' c) {x y : AV} {v : Value} (ha : ArgT S b x y) (hr : Rep ok w μ S x v) : Rep ok' w μ [] y v := by
  cases ha with
  | of _ _ h => exact h.sound rs h1 h2 hr
  | tup xs ys h =>
    cases hr with
    | tup _ vs hl hr =>
      refine .tup ys vs (by rw [h.len]; exact hl) ?_
      intro j y v hj hv
      obtain ⟨x, hx, ha⟩ := h.get j y hj
      exact ha.sound rs h1 h2 (hr j x v hx hv)
def AV.sh0 (n : Nat) : AV → AV
  | .ref i z k sub => .ref (i + n) z k sub
  | .own i z off len => .own (i + n) z off len
  | .clo _ _ => .junk
  | x => x
def AV.sh1 (n : Nat) : AV → AV
  | .agg xs => .agg (xs.map (AV.sh0 n))
  | .tup _ => .any
  | x => x.sh0 n
def AV.sh (n : Nat) : AV → AV
  | .tup xs => .tup (xs.map (AV.sh1 n))
  | x => x.sh1 n
def shS (n : Nat) (S : Store) : Store := S.map (Option.map fun o => ⟨o.z, o.es.map (AV.sh1 n)⟩)
/-- Without slices that are only read. -/
def AV.flat0 : AV → Bool
  | .sl _ _ => false
  | .ro _ => false
  | _ => true
def AV.flat1 : AV → Bool
  | .agg xs => xs.all AV.flat0
  | x => x.flat0
def AV.flat : AV → Bool
  | .tup xs => xs.all AV.flat1
  | x => x.flat1
end
end
section
section
variable {P : Program} {ok : Nat → Prop} {w : World} {μ : Nat → Nat} {S : Store}
theorem shift0 {ok' : Nat → Prop} {μ' : Nat → Nat} {Sr S' : Store} {n : Nat} (hlen : n + Sr.length ≤ S'.length) (hμ : ∀ i, μ' (i + n) = μ i) {x : AV} {v : Value}
    (hsl : (∀ b, ok' b → ¬ liveB Sr μ b → ok b ∧ ¬ liveB S' μ' b) ∨ x.flat0 = true) (hs : x.scalar = true) (h : Rep ok' w μ Sr x v) : Rep ok w μ' S' (x.sh0 n) v ∧ (x.sh0 n).scalar = true := by
  have h1 := h.one hs
  cases h with
  | prim _ h => exact ⟨.prim _ h, rfl⟩
  | junk _ h => exact ⟨.junk _ h, rfl⟩
  | sl z xs _ h =>
    rcases hsl with hsl | hf
    · exact ⟨.sl z xs v (h.mono (fun ad u _ hc => hc) (fun ad u hb _ => hsl _ hb.1 hb.2)), rfl⟩
    · simp [AV.flat0] at hf
  | ro xs ad f hsp hne hb hc hd =>
    rcases hsl with hsl | hf
    · exact ⟨.ro xs ad f hsp hne (hsl _ hb.1 hb.2) hc (fun j y hj => (hd j y hj).mono (fun ad u _ hc => hc) (fun ad u hb _ => hsl _ hb.1 hb.2)), rfl⟩
    · simp [AV.flat0] at hf
  | ref i z k sub hi => rw [← hμ i]; exact ⟨.ref (i + n) z k sub (by omega), rfl⟩
  | own0 i z off A hi => exact ⟨.own0 (i + n) z off A (by omega), rfl⟩
  | own i z off len c cs ty hi h0 hc hb hsz => rw [← hμ i] at hb ⊢; exact ⟨.own (i + n) z off len c cs ty (by omega) h0 hc hb hsz, rfl⟩
  | clo g caps vs hl h => exact ⟨.junk _ rfl, rfl⟩
  | agg => simp [AV.scalar] at hs
  | tup => simp [AV.scalar] at hs
  | any => simp [AV.scalar] at hs
theorem sh0_cells (n : Nat) {x : AV} (h : x.scalar = true) : (x.sh0 n).scalar = true ∧ (x.sh0 n).cells = [x.sh0 n] ∧ x.sh1 n = x.sh0 n := by
  cases x with
  | agg => simp [AV.scalar] at h
  | tup => simp [AV.scalar] at h
  | any => simp [AV.scalar] at h
  | _ => exact ⟨rfl, rfl, rfl⟩
theorem shift1 {ok' : Nat → Prop} {μ' : Nat → Nat} {Sr S' : Store} {n : Nat} (hlen : n + Sr.length ≤ S'.length) (hμ : ∀ i, μ' (i + n) = μ i) {x : AV} {v : Value}
    (hsl : (∀ b, ok' b → ¬ liveB Sr μ b → ok b ∧ ¬ liveB S' μ' b) ∨ x.flat1 = true) (h : Rep ok' w μ Sr x v) : Rep ok w μ' S' (x.sh1 n) v := by
  cases x with
  | agg xs =>
    cases h with
    | agg _ vs hl hs hr =>
      have hx : ∀ (x : AV), x ∈ xs → (∀ b, ok' b → ¬ liveB Sr μ b → ok b ∧ ¬ liveB S' μ' b) ∨ x.flat0 = true := by
        intro x hx
        rcases hsl with h | h
        · exact .inl h
        · simp only [AV.flat1, List.all_eq_true] at h; exact .inr (h x hx)
      refine .agg _ vs (by simpa using hl) ?_ ?_
      · intro y hy
        obtain ⟨x, hx', rfl⟩ := List.mem_map.1 hy
        exact (sh0_cells n (hs x hx')).1
      · intro j y u hj hu
        rw [List.getElem?_map] at hj
        obtain ⟨x, hx', rfl⟩ := Option.map_eq_some_iff.1 hj
        exact (shift0 hlen hμ (hx x (List.mem_of_getElem? hx')) (hs x (List.mem_of_getElem? hx')) (hr j x u hx' hu)).1
  | tup => exact .any v
  | any => exact .any v
  | _ => exact (shift0 hlen hμ hsl rfl h).1
theorem shiftT {ok' : Nat → Prop} {μ' : Nat → Nat} {Sr S' : Store} {n : Nat} (hlen : n + Sr.length ≤ S'.length) (hμ : ∀ i, μ' (i + n) = μ i) {x : AV} {v : Value}
    (hsl : (∀ b, ok' b → ¬ liveB Sr μ b → ok b ∧ ¬ liveB S' μ' b) ∨ x.flat = true) (h : Rep ok' w μ Sr x v) : Rep ok w μ' S' (x.sh n) v := by
  cases x with
  | tup xs =>
    cases h with
    | tup _ vs hl hr =>
      refine .tup _ vs (by simpa using hl) fun j y u hj hu => ?_
      rw [List.getElem?_map] at hj
      obtain ⟨x, hx', rfl⟩ := Option.map_eq_some_iff.1 hj
      refine shift1 hlen hμ ?_ (hr j x u hx' hu)
      rcases hsl with h | h
      · exact .inl h
      · simp only [AV.flat, List.all_eq_true] at h; exact .inr (h x (List.mem_of_getElem? hx'))
  | _ => exact shift1 hlen hμ hsl h
/-- The contract of a function that turns nothing that lay ahead of the call. -/
def Fn (P : Program) (f : FuncId) (args : List AV) (R : AV → Store → Prop) : Prop := AFn P f args [] (fun r S' mv => R r S' ∧ mv = [])
/-- What a callee takes for a value of the caller's. -/
def Sees (S : Store) (b : Bool) (x y : AV) : Prop := ∀ (ok ok' : Nat → Prop) (w : World) (μ : Nat → Nat) (v : Value), RelS ok w μ S → (∀ c, ok c → ¬ liveB S μ c → ok' c) → (b = true → ∀ c, liveB S μ c → ok' c) → Rep ok w μ S x v → Rep ok' w μ [] y v
theorem All2.mono {R R' : AV → AV → Prop} (h : ∀ x y, R x y → R' x y) {xs ys : List AV} (ha : All2 R xs ys) : All2 R' xs ys := by
  induction ha with
  | nil => exact .nil
  | cons x y xs ys hx t ih => exact .cons _ _ _ _ (h _ _ hx) ih
/-- In a caller with objects of its own. Where the arguments name some of these, what comes back must hold no slice that is only read. -/
theorem Fn.frameG {f : FuncId} {args args' : List AV} {R : AV → Store → Prop} (h : Fn P f args' R) (b : Bool) (ha : All2 (Sees S b) args args')
    (hflat : b = true → ∀ r Sr, R r Sr → r.flat = true ∧ ∀ (o : AObj), some o ∈ Sr → ∀ x ∈ o.es, x.flat1 = true) :
    AFn P f args S (fun r S' mv => ∃ r0 Sr, R r0 Sr ∧ r = r0.sh S.length ∧ S' = S ++ shS S.length Sr ∧ mv = []) := by
  refine ⟨h.1, fun ok μ w vs hok rs hl hr => ?_⟩
  let ok' : Nat → Prop := fun c => b = true ∨ (ok c ∧ ¬ liveB S μ c) ∨ w.heap.size ≤ c
  have hargs : ∀ (j : Nat) (y : AV), args'[j]? = some y → Rep ok' w μ [] y (vs.getD j undef) := by
    intro j y hj
    obtain ⟨x, hx, hxy⟩ := ha.get j y hj
    exact hxy ok ok' w μ _ rs (fun c hc hn => .inr (.inl ⟨hc, hn⟩)) (fun hb c _ => .inl hb) (hr j x hx)
  refine (h.2 ok' μ w vs (fun c hc => .inr (.inr hc)) ⟨fun i o hi => by simp at hi, fun i o hi => by simp at hi, fun i j oi oj hi => by simp at hi⟩ (by rw [hl, ha.len]) hargs).mono ?_
  rintro e w' ⟨r0, v, Sr, mv, μr, rfl, ⟨hR, rfl⟩, rsr, hrr, md, lv, ln, mu⟩
  have md' : Mod w (fun _ => False) w' := ⟨md.os, md.tape, md.output, md.size, fun c hc _ => md.keep c hc (not_live_nil _ _), md.shape⟩
  have hnew : ∀ c, liveB Sr μr c → w.heap.size ≤ c := fun c hc => by
    rcases Nat.lt_or_ge c w.heap.size with hlt | hge
    · exact absurd (lv c hlt hc) (not_live_nil _ _)
    · exact hge
  have hold : ∀ c, liveB S μ c → c < w.heap.size := fun c ⟨i, o, hi, hne, e⟩ => by
    obtain ⟨cs, ty, hb, _⟩ := rs.blk i o hi hne
    rw [← e]; exact (Array.getElem?_eq_some_iff.1 hb).1
  let n := S.length
  let μ'' : Nat → Nat := fun i => if i < n then μ i else μr (i - n)
  have hμr : ∀ i, μ'' (i + n) = μr i := fun i => by simp only [μ'']; rw [if_neg (by omega), Nat.add_sub_cancel]
  have hμl : ∀ i, i < n → μ'' i = μ i := fun i hi => by simp [μ'', hi]
  have hlen : (shS n Sr).length = Sr.length := by simp [shS]
  have hsome : ∀ (i : Nat) (o : AObj), (S ++ shS n Sr)[i]? = some (some o) → (i < n ∧ S[i]? = some (some o)) ∨ (∃ k o1, i = k + n ∧ Sr[k]? = some (some o1) ∧ o = ⟨o1.z, o1.es.map (AV.sh1 n)⟩) := by
    intro i o hi
    rw [List.getElem?_append] at hi
    split at hi
    · rename_i hlt; exact .inl ⟨hlt, hi⟩
    · rename_i hge
      right
      simp only [shS, List.getElem?_map, Option.map_eq_some_iff] at hi
      obtain ⟨x, hx, o1, rfl, hy⟩ := hi
      exact ⟨i - n, o1, by omega, hx, hy.symm⟩
  have hlive : ∀ c, liveB (S ++ shS n Sr) μ'' c ↔ liveB S μ c ∨ liveB Sr μr c := by
    intro c
    constructor
    · rintro ⟨i, o, hi, hne, rfl⟩
      rcases hsome i o hi with ⟨hlt, hi'⟩ | ⟨k, o1, rfl, hk, rfl⟩
      · exact .inl ⟨i, o, hi', hne, (hμl i hlt).symm⟩
      · exact .inr ⟨k, o1, hk, by simpa using hne, (hμr k).symm⟩
    · rintro (⟨i, o, hi, hne, rfl⟩ | ⟨k, o1, hk, hne, rfl⟩)
      · have hlt := (List.getElem?_eq_some_iff.1 hi).1
        exact ⟨i, o, by rw [List.getElem?_append_left hlt]; exact hi, hne, hμl i hlt⟩
      · refine ⟨k + n, ⟨o1.z, o1.es.map (AV.sh1 n)⟩, ?_, by simpa using hne, hμr k⟩
        rw [List.getElem?_append_right (by omega)]
        simp [shS, n, hk]
  have lv' : ∀ c, c < w.heap.size → liveB (S ++ shS n Sr) μ'' c → liveB S μ c := by
    intro c hc hl
    rcases (hlive c).1 hl with h | h
    · exact h
    · have := hnew c h; omega
  have hh : Hop w μ S w' μ'' (S ++ shS n Sr) [] := ⟨fun ad u _ hc => md'.cell ad u id hc, lv', by simp, fun i hi _ => hμl i hi, md'.shape⟩
  have hslx : b = false → ∀ c, ok' c → ¬ liveB Sr μr c → ok c ∧ ¬ liveB (S ++ shS n Sr) μ'' c := by
    intro hb c hc hn
    rcases hc with hc | hc | hc
    · rw [hb] at hc; cases hc
    · exact ⟨hc.1, fun hl => ((hlive c).1 hl).elim hc.2 hn⟩
    · exact ⟨hok c hc, fun hl => ((hlive c).1 hl).elim (fun h => by have := hold c h; omega) hn⟩
  have hsl1 : ∀ (o : AObj) (x : AV), some o ∈ Sr → x ∈ o.es → (∀ c, ok' c → ¬ liveB Sr μr c → ok c ∧ ¬ liveB (S ++ shS n Sr) μ'' c) ∨ x.flat1 = true := by
    intro o x ho hx
    cases hb : b with
    | false => exact .inl (hslx hb)
    | true => exact .inr ((hflat hb r0 Sr hR).2 o ho x hx)
  have rs' : RelS ok w' μ'' (S ++ shS n Sr) := by
    refine ⟨?_, ?_, ?_⟩
    · intro i o hi hne
      rcases hsome i o hi with ⟨hlt, hi'⟩ | ⟨k, o1, rfl, hk, rfl⟩
      · obtain ⟨cs, ty, hb, hs, hc⟩ := rs.blk i o hi' hne
        refine ⟨cs, ty, ?_, hs, fun k x j y hk hj => ?_⟩
        · rw [hμl i hlt, md'.keep _ (Array.getElem?_eq_some_iff.1 hb).1 id]; exact hb
        · obtain ⟨v, hv, hr⟩ := hc k x j y hk hj
          exact ⟨v, hv, hr.hop hh (AV.clean_nil y)⟩
      · obtain ⟨cs, ty, hb, hs, hc⟩ := rsr.blk k o1 hk (by simpa using hne)
        refine ⟨cs, ty, by rw [hμr]; exact hb, by simpa using hs, fun kk x j y hk' hj => ?_⟩
        simp only [List.getElem?_map, Option.map_eq_some_iff] at hk'
        obtain ⟨x0, hx0, rfl⟩ := hk'
        have hsc := ((rsr.siz k o1 hk).2 x0 (List.mem_of_getElem? hx0)).2
        rcases AV.agg_or x0 with ⟨xs, rfl⟩ | hcc
        · simp only [AV.sh1, AV.cells, List.getElem?_map, Option.map_eq_some_iff] at hj
          obtain ⟨y0, hy0, rfl⟩ := hj
          obtain ⟨v, hv, hr⟩ := hc kk _ j y0 hx0 hy0
          refine ⟨v, hv, (shift0 (by simp [hlen, n]) hμr ?_ (hsc y0 (List.mem_of_getElem? hy0)) hr).1⟩
          rcases hsl1 o1 _ (List.mem_of_getElem? hk) (List.mem_of_getElem? hx0) with h | h
          · exact .inl h
          · simp only [AV.flat1, List.all_eq_true] at h; exact .inr (h y0 (List.mem_of_getElem? hy0))
        · have hs0 := hsc x0 (by simp [hcc])
          obtain ⟨_, c2, c3⟩ := sh0_cells n hs0
          rw [c3, c2] at hj
          cases j with
          | succ j => simp at hj
          | zero =>
            simp at hj; subst hj
            obtain ⟨v, hv, hr⟩ := hc kk x0 0 x0 hx0 (by simp [hcc])
            refine ⟨v, hv, (shift0 (by simp [hlen, n]) hμr ?_ hs0 hr).1⟩
            rcases hsl1 o1 _ (List.mem_of_getElem? hk) (List.mem_of_getElem? hx0) with h | h
            · exact .inl h
            · right
              cases x0 with
              | agg => simp [AV.scalar] at hs0
              | _ => exact h
    · intro i o hi
      rcases hsome i o hi with ⟨hlt, hi'⟩ | ⟨k, o1, rfl, hk, rfl⟩
      · exact rs.siz i o hi'
      · obtain ⟨hz, hs⟩ := rsr.siz k o1 hk
        refine ⟨hz, fun x hx => ?_⟩
        obtain ⟨x0, hx0, rfl⟩ := List.mem_map.1 hx
        obtain ⟨h1, h2⟩ := hs x0 hx0
        rcases AV.agg_or x0 with ⟨xs, rfl⟩ | hcc
        · refine ⟨by simpa [AV.sh1, AV.cells] using h1, fun y hy => ?_⟩
          simp only [AV.sh1, AV.cells] at hy
          obtain ⟨y0, hy0, rfl⟩ := List.mem_map.1 hy
          exact (sh0_cells n (h2 y0 hy0)).1
        · have hs0 := h2 x0 (by simp [hcc])
          obtain ⟨c1, c2, c3⟩ := sh0_cells n hs0
          rw [c3, c2]
          rw [hcc] at h1
          exact ⟨by simpa using h1, fun y hy => by obtain rfl := List.mem_singleton.1 hy; exact c1⟩
    · intro i j oi oj hi hj hni hnj e
      rcases hsome i oi hi with ⟨hlt, hi'⟩ | ⟨k, o1, rfl, hk, rfl⟩ <;> rcases hsome j oj hj with ⟨hlt', hj'⟩ | ⟨k', o2, rfl, hk', rfl⟩
      · rw [hμl i hlt, hμl j hlt'] at e
        exact rs.inj i j oi oj hi' hj' hni hnj e
      · rw [hμl i hlt, hμr] at e
        have h1 := hold (μ i) ⟨i, oi, hi', hni, rfl⟩
        have h2 := hnew (μr k') ⟨k', o2, hk', by simpa using hnj, rfl⟩
        omega
      · rw [hμl j hlt', hμr] at e
        have h1 := hold (μ j) ⟨j, oj, hj', hnj, rfl⟩
        have h2 := hnew (μr k) ⟨k, o1, hk, by simpa using hni, rfl⟩
        omega
      · rw [hμr, hμr] at e
        rw [rsr.inj k k' o1 o2 hk hk' (by simpa using hni) (by simpa using hnj) e]
  refine ⟨r0.sh n, v, S ++ shS n Sr, [], μ'', rfl, ⟨r0, Sr, hR, rfl, rfl, rfl⟩, rs', ?_, ⟨md.os, md.tape, md.output, md.size, fun c hc _ => md.keep c hc (not_live_nil _ _), md.shape⟩, lv', by simp, fun i hi _ => hμl i hi⟩
  refine shiftT (by simp [hlen, n]) hμr ?_ hrr
  cases hb : b with
  | false => exact .inl (hslx hb)
  | true => exact .inr (hflat hb r0 Sr hR).1
theorem Fn.frame {f : FuncId} {args args' : List AV} {R : AV → Store → Prop} (h : Fn P f args' R) (b : Bool) (ha : All2 (Arg S b) args args')
    (hflat : b = true → ∀ r Sr, R r Sr → r.flat = true ∧ ∀ (o : AObj), some o ∈ Sr → ∀ x ∈ o.es, x.flat1 = true) :
    AFn P f args S (fun r S' mv => ∃ r0 Sr, R r0 Sr ∧ r = r0.sh S.length ∧ S' = S ++ shS S.length Sr ∧ mv = []) :=
  h.frameG b (ha.mono fun x y h => by intro ok ok' w μ v rs h1 h2 hr; exact h.sound rs h1 h2 hr) hflat
def isTmp : ResultVar → Bool
  | .tmp _ => true
  | .cell _ _ => false
/-- Several results, one by one. -/
def resL (P : Program) (tm : List AV) (S : Store) : List ResultVar → (List AV → Prop) → Prop
  | [], K => K []
  | .tmp t :: rs, K => resL P tm S rs (fun vs => K (tm.getD t .any :: vs))
  | .cell ad t :: rs, K => match onT (tiOf P) t fun ti => loadR ti S (tm.getD ad .any) with
    | .val φ v => φ ∧ resL P tm S rs (fun vs => K (v :: vs))
    | _ => False
def resP (P : Program) (rs : List ResultVar) (tm : List AV) (S : Store) (K : AV → Prop) : Prop :=
  match rs with
  | [.tmp t] => K (tm.getD t .any)
  | [.cell ad t] => match onT (tiOf P) t fun ti => loadR ti S (tm.getD ad .any) with
    | .val φ v => φ ∧ K v
    | _ => False
  | rs => resL P tm S rs (fun vs => K (.tup vs))
/-- What a body's end owes: the result, and the objects, as the contract has them. -/
def Fin (n0 : Nat) (r : AV) (S : Store) (mv : List Nat) (Q : AV → Store → List Nat → Prop) : Prop :=
  ∃ r' S' mv', Q r' S' mv' ∧ ∀ ok w0 μ0 S0 μ a w v tm, S0.length = n0 → RelT ok w0 μ0 S0 ⟨tm, S, mv⟩ μ a w → Rep ok w μ S r v →
    ∃ μ', RelS ok w μ' S' ∧ Rep ok w μ' S' r' v ∧ (∀ b, b < w0.heap.size → liveB S' μ' b → liveB S0 μ0 b) ∧ S0.length ≤ S'.length ∧ (∀ i, i < S0.length → mv'.contains i = false → μ' i = μ0 i)
theorem fin_same {n0 : Nat} {r : AV} {S : Store} {mv : List Nat} {Q : AV → Store → List Nat → Prop} (h : Q r S mv) : Fin n0 r S mv Q :=
  ⟨r, S, mv, h, fun ok w0 μ0 S0 μ a w v tm _ hr hv => ⟨μ, hr.rs, hv, hr.lv, hr.ln, hr.mu⟩⟩
/-- The result as a datum; no object is handed on. -/
theorem fin_pure {r r' : AV} {S : Store} {mv : List Nat} {R : AV → Store → Prop} (ha : ArgT S true r r') (h : R r' []) : Fin 0 r S mv (fun r S' mv => R r S' ∧ mv = []) :=
  ⟨r', [], [], ⟨h, rfl⟩, fun ok w0 μ0 S0 μ a w v tm h0 hr hv => by
    have hS0 : S0 = [] := List.eq_nil_of_length_eq_zero h0
    subst hS0
    refine ⟨μ, ⟨fun i o hi => by simp at hi, fun i o hi => by simp at hi, fun i j oi oj hi => by simp at hi⟩, ?_, fun b _ hl => absurd hl (not_live_nil _ _), by simp, fun i hi => by simp at hi⟩
    refine ha.sound hr.rs (fun c hc _ => hc) (fun _ c hl => ?_) hv
    rcases Nat.lt_or_ge c w0.heap.size with hlt | hge
    · exact absurd (hr.lv c hlt hl) (not_live_nil _ _)
    · exact hr.fr c hge⟩
def endP (P : Program) (rs : List ResultVar) (n0 : Nat) (Q : AV → Store → List Nat → Prop) : Exit → St → Prop
  | .normal, st => resP P rs st.tm st.S (fun r => Fin n0 r st.S st.mv Q)
  | .ret, st => resP P rs st.tm st.S (fun r => Fin n0 r st.S st.mv Q)
  | _, _ => False
theorem cell_sound {w0 : World} {μ0 : Nat → Nat} {S0 : Store} {st : St} {a : Act} (h : RelT ok w0 μ0 S0 st μ a w) {ad : Tmp} {t : TypeId} {φ : Prop} {v : AV} (hv : (onT (tiOf P) t fun ti => loadR ti st.S (st.tm.getD ad .any)) = .val φ v) (hφ : φ) :
    ∃ aa u, a.tmps.getD ad undef = .pointer (some aa) ∧ (loadVar t aa).run P w = .ok u w ∧ Rep ok w μ st.S v u := by
  have htm : ∀ t, Rep ok w μ st.S (st.tm.getD t .any) (a.tmps.getD t undef) := fun t => by
    have := h.evs (.tmp t)
    simpa [ev, Act.eval] using this
  obtain ⟨ti, hti, hload⟩ := onT_val hv
  obtain ⟨u, h1, h2⟩ := load_sound h.rs hti (htm ad) hload hφ
  have hptr : ∃ aa, a.tmps.getD ad undef = .pointer (some aa) := by
    have := htm ad
    cases hx : st.tm.getD ad .any <;> rw [hx] at hload this <;> simp [loadR] at hload
    · generalize a.tmps.getD ad undef = u at this
      cases this; exact ⟨_, rfl⟩
    · generalize a.tmps.getD ad undef = u at this
      cases this; exact ⟨_, rfl⟩
  obtain ⟨aa, haa⟩ := hptr
  rw [haa] at h1
  exact ⟨aa, u, haa, by simpa [Instr.loadAt, Instr.sureAddr] using h1, h2⟩
theorem resL_sound {w0 : World} {μ0 : Nat → Nat} {S0 : Store} {st : St} {a : Act} (h : RelT ok w0 μ0 S0 st μ a w) : ∀ (rs : List ResultVar) {K : List AV → Prop}, resL P st.tm st.S rs K →
    ∃ vs us, K vs ∧ (rs.mapM fun | .tmp t => pure (a.tmps.getD t undef) | .cell ad t => do loadVar t (← asAddr (a.tmps.getD ad undef)) : Sem (List Value)).run P w = .ok us w ∧ us.length = rs.length ∧ vs.length = us.length ∧
      ∀ (j : Nat) (x : AV) (v : Value), vs[j]? = some x → us[j]? = some v → Rep ok w μ st.S x v
  | [], K, hr => ⟨[], [], hr, by simp, rfl, rfl, fun j x v hj _ => by simp at hj⟩
  | .tmp t :: rs, K, hr => by
    simp only [resL] at hr
    obtain ⟨vs, us, h1, h2, h3, h4, h5⟩ := resL_sound h rs hr
    have htm : Rep ok w μ st.S (st.tm.getD t .any) (a.tmps.getD t undef) := by
      have := h.evs (.tmp t)
      simpa [ev, Act.eval] using this
    refine ⟨_, a.tmps.getD t undef :: us, h1, ?_, by simp [h3], by simp [h4], ?_⟩
    · rw [List.mapM_cons]
      simp only [Sem.run_bind, Sem.run_pure, Result.andThen_ok]
      rw [h2]
      rfl
    · rintro (_ | j) x v hx hv
      · simp only [List.getElem?_cons_zero, Option.some.injEq] at hx hv; subst hx; subst hv; exact htm
      · exact h5 j x v (by simpa using hx) (by simpa using hv)
  | .cell ad t :: rs, K, hr => by
    simp only [resL] at hr
    split at hr
    · rename_i φ v hv
      obtain ⟨aa, u, e1, e2, e3⟩ := cell_sound h hv hr.1
      obtain ⟨vs, us, h1, h2, h3, h4, h5⟩ := resL_sound h rs hr.2
      refine ⟨_, u :: us, h1, ?_, by simp [h3], by simp [h4], ?_⟩
      · rw [List.mapM_cons]
        have e4 : (asAddr (a.tmps.getD ad undef)).run P w = .ok aa w := by rw [e1]; rfl
        simp only [Sem.run_bind, Sem.run_pure, Result.andThen_ok, e4, e2]
        rw [h2]
        rfl
      · rintro (_ | j) x v' hx hv'
        · simp only [List.getElem?_cons_zero, Option.some.injEq] at hx hv'; subst hx; subst hv'; exact e3
        · exact h5 j x v' (by simpa using hx) (by simpa using hv')
    · exact hr.elim
theorem resP_sound {w0 : World} {μ0 : Nat → Nat} {S0 : Store} {st : St} {a : Act} (h : RelT ok w0 μ0 S0 st μ a w) {fn : Func} {K : AV → Prop} (hr : resP P fn.results.toList st.tm st.S K) :
    ∃ r v, K r ∧ (results fn a.tmps).run P w = .ok v w ∧ Rep ok w μ st.S r v := by
  have htm : ∀ t, Rep ok w μ st.S (st.tm.getD t .any) (a.tmps.getD t undef) := fun t => by
    have := h.evs (.tmp t)
    simpa [ev, Act.eval] using this
  unfold resP at hr
  split at hr
  · rename_i t ht
    have hfr : fn.results = #[.tmp t] := by rw [← Array.toList_inj]; simpa using ht
    exact ⟨_, _, hr, results_tmp hfr a.tmps P w, htm t⟩
  · rename_i ad t ht
    have hfr : fn.results = #[.cell ad t] := by rw [← Array.toList_inj]; simpa using ht
    split at hr
    · rename_i φ v hv
      obtain ⟨ti, hti, hload⟩ := onT_val hv
      obtain ⟨u, h1, h2⟩ := load_sound h.rs hti (htm ad) hload hr.1
      refine ⟨v, u, hr.2, ?_, h2⟩
      have hptr : ∃ aa, a.tmps.getD ad undef = .pointer (some aa) := by
        have := htm ad
        cases hx : st.tm.getD ad .any <;> rw [hx] at hload this <;> simp [loadR] at hload
        · generalize a.tmps.getD ad undef = u at this
          cases this; exact ⟨_, rfl⟩
        · generalize a.tmps.getD ad undef = u at this
          cases this; exact ⟨_, rfl⟩
      obtain ⟨aa, haa⟩ := hptr
      rw [haa] at h1
      have h1' : (loadVar t aa).run P w = .ok u w := by simpa [Instr.loadAt, Instr.sureAddr] using h1
      have haa' : a.tmps[ad]?.getD undef = .pointer (some aa) := by rw [← Array.getD_eq_getD_getElem?]; exact haa
      simp only [results, hfr]
      simp [haa', asAddr, h1']
    · exact hr.elim
  · rename_i n1 n2
    obtain ⟨vs, us, hK, hrun, h3, h4, h5⟩ := resL_sound h fn.results.toList hr
    refine ⟨_, .tuple us.toArray, hK, ?_, .tup _ _ h4.symm h5⟩
    have hm : (fn.results.mapM fun | .tmp t => pure (a.tmps.getD t undef) | .cell ad t => do loadVar t (← asAddr (a.tmps.getD ad undef)) : Sem (Array Value)).run P w = .ok us.toArray w := by
      rw [← Array.toArray_toList (xs := fn.results), List.mapM_toArray, Sem.run_map, hrun]
      simp
    have hsz : ¬ (us.toArray.size = 1) := by
      simp only [List.size_toArray, h3]
      intro h1
      obtain ⟨x, hx⟩ : ∃ x, fn.results.toList = [x] := by
        cases hl : fn.results.toList with
        | nil => rw [hl] at h1; simp at h1
        | cons x r => cases r with
          | nil => exact ⟨x, rfl⟩
          | cons y r => rw [hl] at h1; simp at h1
      cases x with
      | tmp t => exact n1 t hx
      | cell ad t => exact n2 ad t hx
    simp only [results, Sem.run_bind, Sem.run_pure]
    exact (congrArg (fun r : Result (Array Value) => r.andThen fun a w' => .ok (if h : a.size = 1 then a[0] else .tuple a) w') hm).trans (by simp only [Result.andThen_ok, hsz, dite_false])
/-- A function's contract, by its body. -/
theorem afn_awp0 {f : FuncId} {fn : Func} {c : Code} {args : List AV} {Q : AV → Store → List Nat → Prop} (hf : P.funcs[f]? = some fn) (hb : fn.body = some c) (hn : (fn.name == "runtime.NumGoroutine") = false)
    (h : ∀ ok μ a w, RelT ok w μ S ⟨args ++ List.replicate (fn.ntmps - args.length) .any, S, []⟩ μ a w → c.wp P (fun ex a' w' => ∃ st' μ', endP P fn.results.toList S.length Q ex st' ∧ RelT ok w μ S st' μ' a' w') a w) : AFn P f args S Q := by
  refine ⟨⟨fn, hf, hn, by simp [hb]⟩, fun ok μ w vs hok rs hl hr => ?_⟩
  have hT : RelT ok w μ S ⟨args ++ List.replicate (fn.ntmps - args.length) .any, S, []⟩ μ { tmps := vs ++ Array.replicate (fn.ntmps - vs.size) undef, defers := [] } w := by
    refine ⟨rs, hok, rfl, by simp [hl], ?_, Mod.refl _ _, fun b _ h => h, Nat.le_refl _, fun i _ _ => rfl⟩
    intro t x ht
    rw [List.getElem?_append] at ht
    split at ht
    · rename_i hlt
      have e : (vs ++ Array.replicate (fn.ntmps - vs.size) undef).getD t undef = vs.getD t undef := by
        rw [Array.getD_eq_getD_getElem?, Array.getElem?_append_left (by omega), Array.getD_eq_getD_getElem?]
      rw [e]
      exact hr t x ht
    · rw [List.getElem?_replicate] at ht
      split at ht
      · cases ht; exact .any _
      · cases ht
  refine calls_of_wp hf hb (Code.wp_mono ?_ (h ok μ _ w hT))
  rintro e a' w' ⟨st', μ', hQ, hr'⟩
  have fin : resP P fn.results.toList st'.tm st'.S (fun r => Fin S.length r st'.S st'.mv Q) → ∃ v, (results fn a'.tmps).run P w' = .ok v w' ∧ ∃ r v_1 S' mv μ', Ending.returned v = .returned v_1 ∧ Q r S' mv ∧ RelS ok w' μ' S' ∧ Rep ok w' μ' S' r v_1 ∧ Mod w (liveB S μ) w' ∧ (∀ b, b < w.heap.size → liveB S' μ' b → liveB S μ b) ∧ S.length ≤ S'.length ∧ (∀ i, i < S.length → mv.contains i = false → μ' i = μ i) := by
    intro hres
    obtain ⟨r, v, ⟨r', S', mv', hq, hfin⟩, hrun, hrep⟩ := resP_sound hr' hres
    obtain ⟨μ2, k1, k2, k3, k4, k5⟩ := hfin ok w μ S μ' a' w' v st'.tm rfl hr' hrep
    exact ⟨v, hrun, r', v, S', mv', μ2, rfl, hq, k1, k2, hr'.md, k3, k4, k5⟩
  cases e with
  | normal => exact ⟨hr'.df, fin hQ⟩
  | ret => exact ⟨hr'.df, fin hQ⟩
  | _ => exact hQ.elim
theorem afn_awp {f : FuncId} {fn : Func} {c : Code} {args : List AV} {Q : AV → Store → List Nat → Prop} (hf : P.funcs[f]? = some fn) (hb : fn.body = some c) (hn : (fn.name == "runtime.NumGoroutine") = false)
    (h : AWP P c (endP P fn.results.toList S.length Q) ⟨args ++ List.replicate (fn.ntmps - args.length) .any, S, []⟩) : AFn P f args S Q := afn_awp0 hf hb hn fun ok μ a w hr => h ok w μ S μ a w hr
theorem afn_of {f : FuncId} {fn : Func} {c : Code} {args : List AV} {Q : AV → Store → List Nat → Prop} (hf : P.funcs[f]? = some fn) (hb : fn.body = some c) (hn : (fn.name == "runtime.NumGoroutine") = false)
    (h : codeP P c (endP P fn.results.toList S.length Q) ⟨args ++ List.replicate (fn.ntmps - args.length) .any, S, []⟩) : AFn P f args S Q := afn_awp hf hb hn (codeP_sound c _ _ h)
end
end
section
section
variable {T : TypeId → Option TI} {tm tm' : List AV} {S S' : Store}
theorem map_ev {xs : List Operand} (h : ∀ x ∈ xs, ev tm x = ev tm' x) : xs.map (ev tm) = xs.map (ev tm') := List.map_congr_left h
theorem bnd_congr {d : Int} {o : Option Operand} (h : ∀ x ∈ o, ev tm x = ev tm' x) : bnd tm d o = bnd tm' d o := by
  cases o with
  | none => rfl
  | some x => simp only [bnd, h x (by simp)]
theorem fillR_congr {offs : List Nat} : ∀ (parts : List (Nat × Operand)) (cs : List AV), (∀ p ∈ parts, ev tm p.2 = ev tm' p.2) → fillR offs tm cs parts = fillR offs tm' cs parts
  | [], cs, h => rfl
  | (i, x) :: parts, cs, h => by
    have h0 := h (i, x) (by simp)
    simp only at h0
    have ih := fun cs => fillR_congr (offs := offs) parts cs (fun p hp => h p (by simp [hp]))
    simp only [fillR, h0, ih]
theorem opR_congr (op : Op) (h : ∀ x ∈ op.operands, ev tm x = ev tm' x) : opR T tm S op = opR T tm' S op := by
  cases op <;> simp only [Op.operands] at h <;> simp only [opR]
  case move x => rw [h x (by simp)]
  case assign x => rw [h x (by simp)]
  case pick c x y => rw [h c (by simp), h x (by simp), h y (by simp)]
  case load t x => rw [h x (by simp)]
  case store t x y => rw [h x (by simp), h y (by simp)]
  case fieldAddr t x f => rw [h x (by simp)]
  case indexAddr t x y => rw [h x (by simp), h y (by simp)]
  case binOp o t x y t' => rw [h x (by simp), h y (by simp)]
  case unOp o t x => rw [h x (by simp)]
  case nilCheck x => rw [h x (by simp)]
  case extract x i => rw [h x (by simp)]
  case makeFunc fn first caps =>
    cases fn <;> simp only
    rw [map_ev (fun x hx => h x (by simp; right; simpa using hx))]
  case slice t x lo hi mx =>
    have hx := h x (by simp)
    have hl : ∀ d, bnd tm d lo = bnd tm' d lo := fun d => bnd_congr (fun y hy => h y (by cases lo <;> simp_all))
    have hh : ∀ d, bnd tm d hi = bnd tm' d hi := fun d => bnd_congr (fun y hy => h y (by cases hi <;> simp_all))
    have hm : ∀ d, bnd tm d mx = bnd tm' d mx := fun d => bnd_congr (fun y hy => h y (by cases mx <;> simp_all))
    have hs : ∀ ti, sliceR T tm ti (ev tm x) lo hi mx = sliceR T tm' ti (ev tm' x) lo hi mx := by
      intro ti
      rw [hx]
      unfold sliceR
      simp only [hl, hh]
      split <;> try rfl
      split <;> try rfl
      split <;> try rfl
      rename_i m _
      simp only [hm]
    have hc : ∀ z m, mx = some m → cutR T tm t z lo hi m = cutR T tm' t z lo hi m := by
      intro z m hmx
      unfold cutR
      split <;> try rfl
      split <;> try rfl
      split <;> try rfl
      split <;> try rfl
      rename_i hx'
      rw [h hx' (by simp), h m (by simp [hmx])]
    rw [hx]
    split
    · exact hc _ _ rfl
    · rw [hx] at hs; simp only [hs]
  case convert s d x => rw [h x (by simp)]
  case box t x => rw [h x (by simp)]
  case makeSlice t l c => rw [h l (by simp), h c (by simp)]
  case buildSlice t len parts =>
    have : (parts.toList.map fun p => ev tm p.2) = (parts.toList.map fun p => ev tm' p.2) := List.map_congr_left (fun p hp => h p.2 (by simp only [List.mem_toArray, List.mem_map]; exact ⟨p, hp, rfl⟩))
    simp only [buildSliceR, this]
  case build t parts =>
    have : ∀ offs cs, fillR offs tm cs parts.toList = fillR offs tm' cs parts.toList := fun offs cs => fillR_congr _ _ (fun p hp => h p.2 (by simp only [List.mem_toArray, List.mem_map]; exact ⟨p, hp, rfl⟩))
    simp only [buildR, this]
  case call c =>
    obtain ⟨callee, args, ats⟩ := c
    have ha : ∀ x ∈ args.toList, ev tm x = ev tm' x := fun x hx => h x (by simp [Call.operands]; right; simpa using hx)
    unfold callR
    simp only
    split
    · rename_i x t hx _; rw [ha x (by simp [hx])]
    · rename_i x y t t' hx _; rw [ha x (by simp [hx]), ha y (by simp [hx])]
    · rename_i x y hx; rw [ha x (by simp [hx]), ha y (by simp [hx])]
    · rename_i x y hx; rw [ha x (by simp [hx]), ha y (by simp [hx])]
    · rename_i f
      rw [h f (by simp [Call.operands]), map_ev ha]
    · rfl
/-- More objects make no difference to what could be done with fewer. -/
def quietR : OpR → Prop
  | .val _ _ => True
  | .new _ _ _ => True
  | .enter _ _ => True
  | _ => False
theorem opR_more (hS : ∀ i o, getO S i = some o → getO S' i = some o) (op : Op) (hq : quietR (opR T tm S op)) : opR T tm S' op = opR T tm S op := by
  cases op <;> simp only [opR] at hq ⊢
  case makeFunc fn first caps => cases fn <;> rfl
  case load t x =>
    unfold onT at hq ⊢
    split <;> rename_i ti ht
    · rw [ht] at hq
      simp only at hq
      cases hx : ev tm x <;> rw [hx] at hq <;> simp only [loadR] at hq ⊢
      rename_i i z k sub
      cases ho : getO S i with
      | none => rw [ho] at hq; exact hq.elim
      | some o => rw [hS i o ho]
    · rfl
  case store t x y =>
    unfold onT at hq ⊢
    split <;> rename_i ti ht
    · rw [ht] at hq
      simp only at hq
      unfold storeR at hq
      split at hq
      · split at hq <;> exact hq.elim
      · exact hq.elim
    · rfl
  case convert s d x =>
    unfold convR at hq ⊢
    split <;> try rfl
    rename_i ts td hts htd
    simp only [hts, htd] at hq
    split <;> try rfl
    rename_i i z off len hsh hx
    simp only [hsh, hx] at hq
    split <;> try rfl
    rename_i e he
    simp only [he] at hq
    cases ho : getO S i with
    | none => rw [ho] at hq; cases hte : T e <;> rw [hte] at hq <;> exact hq.elim
    | some o => rw [hS i o ho]
  case call c =>
    obtain ⟨callee, args, ats⟩ := c
    unfold callR at hq ⊢
    simp only at hq ⊢
    split
    · rfl
    · rename_i x y t t' hx ht
      simp only [hx, ht] at hq
      split
      · rename_i htt
        rw [if_pos htt] at hq
        unfold appendR at hq ⊢
        split <;> try rfl
        split <;> try rfl
        split <;> try rfl
        rename_i ti hti _ e hs _ te hte
        simp only [hti, hs, hte] at hq
        have hsrc : srcR S' te.zs.length (ev tm y) = srcR S te.zs.length (ev tm y) := by
          cases hy : ev tm y with
          | own j z' off m =>
            rw [hy] at hq
            simp only [srcR] at hq ⊢
            cases ho : getO S j with
            | none => rw [ho] at hq; exact hq.elim
            | some o => rw [hS j o ho]
          | prim p => unfold srcR; (repeat' split) <;> first | rfl | contradiction
          | _ => rfl
        rw [hsrc]
        cases hsr : srcR S te.zs.length (ev tm y) with
        | none => rfl
        | some p =>
          rw [hsr] at hq
          obtain ⟨ψ, ys⟩ := p
          simp only at hq ⊢
          split
          · rfl
          · rename_i i z off len hx'
            rw [hx'] at hq
            simp only at hq
            cases ho : getO S i with
            | none => rw [ho] at hq; exact hq.elim
            | some o => rw [ho] at hq; exact hq.elim
          · rfl
      · rfl
    · rfl
    · rfl
    · rfl
    · rfl
end
end
section
section
variable {P : Program} {ok : Nat → Prop} {w : World} {μ : Nat → Nat} {S : Store}
theorem appendEmpty_made (B : Option Addr) (rs : RelS ok w μ S) {t e : TypeId} {ti te : TI} (ht : tiOf P t = some ti) (hs : ti.sh = .slice e) (he : tiOf P e = some te) (ty : TypeId) {y : AV} {u : Value} (hy : Rep ok w μ S y u) {ψ : Prop} {ys : List AV}
    (h : srcR S te.zs.length y = some (ψ, ys)) (hψ : ψ) (hb : ys.length * te.bytes ≤ 140737488355328) (hb0 : 0 < te.bytes) :
    Made P ok (Builtin.append_ #[t, t] ty #[.slice B 0 0, u]) w μ S ⟨te.zs.length, ys⟩ (fun i => .own i te.zs.length 0 ys.length) := by
  obtain ⟨_, d, _, hd, _, _, _, _, hsh, _⟩ := ti_spec ht
  rw [hs] at hsh
  obtain rfl := shOf_slice hsh
  obtain ⟨ie, _, hie, _, hz, hsz, hpos, _, _, hby, _⟩ := ti_spec he
  obtain ⟨A, c, news, rfl, src⟩ := src_spec rs hpos hy h hψ
  have hle : ys.length ≤ ys.length * te.bytes := Nat.le_mul_of_pos_right _ hb0
  rcases Nat.eq_zero_or_pos ys.length with h0 | h0
  · have hnil : ys = [] := List.eq_nil_of_length_eq_zero h0
    subst hnil
    refine ⟨.slice B 0 0, w, run_append_none t ty e ie hd hie B 0 0 c (Nat.le_refl _) A, Mod.refl _ _, hpos, by simp, by simp, fun id μ2 S2 hid _ => .own0 _ _ _ _ hid⟩
  · cases A with
    | none => have := src.none rfl; simp [this] at h0
    | some ad =>
      have hrun' : (Builtin.append_ #[t, t] ty #[.slice B 0 0, .slice (some ad) ys.length c]).run P w = .ok (.slice (some ⟨w.heap.size, 0, none⟩) ys.length (grownCap w ys.length 0 e)) (w.drew.alloc (.cells (news.toArray ++ Builtin.zeroCells (zval te).cells (grownCap w ys.length 0 e - ys.length)) e)) := by
        cases B with
        | none => exact run_append_nil (P := P) w t ty e ie (zval te) hd hie hz ad ys.length c news (by rw [hsz]; exact src.len) (src.cell ad rfl) h0 (by omega) (by rw [hby]; omega)
        | some b =>
          have := run_append_grow (P := P) w t ty e ie (zval te) hd hie hz b 0 0 [] (by simp) (by simp) ad ys.length c news (by rw [hsz]; exact src.len) (src.cell ad rfl) (by omega) (by omega) (growslice_fits (by omega) (by rw [hby, Nat.zero_add]; omega))
          simp only [Nat.zero_add, Array.empty_append] at this
          rw [this]
      have hcap := grownCap_ge w ys.length 0 e
      refine ⟨_, _, hrun', mod_drew_alloc _ _, hpos, src.siz, ?_, ?_⟩
      · intro _
        refine ⟨_, _, heap_new w.drew _, by simp [src.len], ?_⟩
        intro k x j y hk hj
        obtain ⟨v, hv, hr⟩ := src.rep k x j y hk hj
        refine ⟨v, ?_, hr⟩
        have hlt := (List.getElem?_eq_some_iff.1 hv).1
        rw [Array.getElem?_append_left (by simpa using hlt)]
        simpa using hv
      · refine own_new _ _ _ _ _ _ hcap (heap_new w.drew _) ?_ (fun h => absurd h (Nat.ne_of_gt h0))
        simp only [Array.size_append, List.size_toArray, size_zeroCells, zval_cells he, src.len]
        rw [← Nat.add_mul]
        exact Nat.mul_le_mul_right _ (by omega)
end
def fresh0 : AV → Bool
  | .own _ _ _ 0 => true
  | _ => false
/-- An append to an empty slice of one's own, as an append to none. -/
def freshOp (tm : List AV) (op : Op) : Op := match op with
  | .call ⟨.builtin .append, args, ats⟩ => match args.toList with
    | [x, y] => if fresh0 (ev tm x) = true then .call ⟨.builtin .append, #[.const (.slice none 0 0), y], ats⟩ else op
    | _ => op
  | _ => op
def opF (T : TypeId → Option TI) (tm : List AV) (S : Store) (op : Op) : OpR := opR T tm S (freshOp tm op)
theorem freshOp_cases (tm : List AV) (op : Op) : freshOp tm op = op ∨ ∃ x y ats i z off, op = .call ⟨.builtin .append, #[x, y], ats⟩ ∧ ev tm x = .own i z off 0 ∧ freshOp tm op = .call ⟨.builtin .append, #[.const (.slice none 0 0), y], ats⟩ := by
  unfold freshOp
  split
  · rename_i args ats
    split
    · rename_i x y ha
      split
      · rename_i hx
        right
        obtain rfl : args = #[x, y] := by rw [← Array.toList_inj]; simpa using ha
        unfold fresh0 at hx
        split at hx
        · rename_i i z off he
          exact ⟨x, y, ats, i, z, off, rfl, he, rfl⟩
        · cases hx
      · exact .inl rfl
    · exact .inl rfl
  · exact .inl rfl
theorem opR_nilApp {T : TypeId → Option TI} {tm : List AV} {S : Store} {y : Operand} {ats : Array TypeId} : (∃ φ ob mk, opR T tm S (.call ⟨.builtin .append, #[.const (.slice none 0 0), y], ats⟩) = .new φ ob mk) ∨ opR T tm S (.call ⟨.builtin .append, #[.const (.slice none 0 0), y], ats⟩) = .stuck := by
  simp only [opR]
  unfold callR
  simp only
  split
  · rename_i x t ha _
    simp at ha
  · rename_i x y' t t' ha _
    simp only [List.cons.injEq, and_true] at ha
    obtain ⟨rfl, rfl⟩ := ha
    have he : ev tm (.const (.slice none 0 0)) = .prim (.slice none 0 0) := rfl
    split
    · unfold appendR
      rw [he]
      (repeat' split) <;> first | exact .inl ⟨_, _, _, rfl⟩ | exact .inr rfl | (rename_i h _ _ ; cases h; done) | (simp_all; done)
    · exact .inr rfl
  all_goals first | exact .inr rfl | (simp_all; done)
theorem opF_of {T : TypeId → Option TI} {tm : List AV} {S : Store} {op : Op} {r : OpR} (h : opF T tm S op = r) (hr : (∃ φ v, r = .val φ v) ∨ (∃ f args, r = .enter f args)) : opR T tm S op = r := by
  unfold opF at h
  rcases freshOp_cases tm op with e | ⟨x, y, ats, i, z, off, rfl, hx, e⟩
  · rw [e] at h; exact h
  · rw [e] at h
    rcases opR_nilApp (T := T) (tm := tm) (S := S) (y := y) (ats := ats) with ⟨φ, ob, mk, h'⟩ | h'
    · rw [h'] at h
      rcases hr with ⟨_, _, e2⟩ | ⟨_, _, e2⟩ <;> rw [e2] at h <;> cases h
    · rw [h'] at h
      rcases hr with ⟨_, _, e2⟩ | ⟨_, _, e2⟩ <;> rw [e2] at h <;> cases h
theorem opF_more {T : TypeId → Option TI} {tm : List AV} {S S' : Store} (hS : ∀ i o, getO S i = some o → getO S' i = some o) (op : Op) (hq : quietR (opF T tm S op)) : opF T tm S' op = opF T tm S op := opR_more hS _ hq
theorem opF_congr {T : TypeId → Option TI} {tm tm' : List AV} {S : Store} (op : Op) (h : ∀ x ∈ op.operands, ev tm x = ev tm' x) : opF T tm S op = opF T tm' S op := by
  unfold opF
  have key : freshOp tm op = freshOp tm' op := by
    unfold freshOp
    split
    · rename_i args ats
      split
      · rename_i x y ha
        obtain rfl : args = #[x, y] := by rw [← Array.toList_inj]; simpa using ha
        rw [h x (by simp [Op.operands, Call.operands])]
      · rfl
    · rfl
  rw [← key]
  refine opR_congr _ fun x hx => ?_
  rcases freshOp_cases tm op with e | ⟨x', y, ats, i, z, off, rfl, hx', e⟩
  · rw [e] at hx; exact h x hx
  · rw [e] at hx
    have hx2 : x = .const (.slice none 0 0) ∨ x = y := by
      simp [Op.operands, Call.operands] at hx
      exact hx
    rcases hx2 with rfl | rfl
    · rfl
    · exact h _ (by simp [Op.operands, Call.operands])
section
variable {P : Program} {ok : Nat → Prop} {w0 : World} {μ0 : Nat → Nat} {S0 : Store} {st : St} {μ : Nat → Nat} {a : Act} {w : World}
theorem newF_sound (h : RelT ok w0 μ0 S0 st μ a w) (o : Oper) {φ : Prop} {ob : AObj} {mk : Nat → AV} (hr : opF (tiOf P) st.tm st.S o.op = .new φ ob mk) (hφ : φ) :
    ∃ s : Sem Value, Made P ok s w μ st.S ob mk ∧ (execOp a.eval o).run P w = (s.run P w).andThen fun v w' => .ok (.value v) w' := by
  unfold opF at hr
  rcases freshOp_cases st.tm o.op with e | ⟨x, y, ats, i, z, off, e0, hx, e⟩
  · rw [e] at hr; exact new_sound h o hr hφ
  · rw [e] at hr
    obtain ⟨dst, op, type, pos, after, guard⟩ := o
    simp only at e0
    subst e0
    have hev := h.evs
    simp only [opR] at hr
    unfold callR at hr
    simp only at hr
    split at hr
    · rename_i ha _; simp at ha
    · rename_i x' y' t t' _ ha hat
      simp only [List.cons.injEq, and_true] at ha
      obtain ⟨rfl, rfl⟩ := ha
      obtain rfl : ats = #[t, t'] := by rw [← Array.toList_inj]; simpa using hat
      split at hr
      · rename_i htt
        subst htt
        unfold appendR at hr
        split at hr <;> try (cases hr; done)
        rename_i ti ht
        split at hr <;> try (cases hr; done)
        rename_i e hs
        split at hr <;> try (cases hr; done)
        rename_i te he
        split at hr <;> try (cases hr; done)
        rename_i ψ ys hsrc
        have hc : ev st.tm (.const (.slice none 0 0)) = .prim (.slice none 0 0) := rfl
        rw [hc] at hr
        simp only at hr
        injection hr with e1 e2 e3
        subst e1; subst e2; subst e3
        have hx' := hev x
        rw [hx] at hx'
        generalize hux : a.eval x = ux at hx'
        cases hx' with
        | own0 _ _ _ B hi =>
          refine ⟨_, appendEmpty_made B h.rs ht hs he type (hev y) hsrc hφ.1 hφ.2.1 hφ.2.2, ?_⟩
          simp [execOp, resolve, invoke, builtin, hux]
        | own _ _ _ _ c cs ty hi h0 hc hb hsz => exact absurd h0 (Nat.lt_irrefl _)
      · cases hr
    all_goals first | (cases hr; done) | (simp_all; done)
end
end
section
/-- A call whose result is this value, whichever objects are there beside those of S0. -/
def Det (P : Program) (f : FuncId) (args : List AV) (S0 : Store) (v : AV) : Prop :=
  ∀ S : Store, (∀ i o, getO S0 i = some o → getO S i = some o) → AFn P f args S (fun r S' mv => r = v ∧ S' = S ∧ mv = [])
/-- A value that names one object at most, its place put in. -/
def AV.at0 (i : Nat) : AV → AV
  | .ref _ z k s => .ref i z k s
  | .own _ z o l => .own i z o l
  | x => x
def AV.at (i : Nat) : AV → AV
  | .agg xs => .agg (xs.map (AV.at0 i))
  | x => x.at0 i
def AV.smp0 : AV → Bool
  | .prim _ => true
  | .sl _ _ => true
  | .ref _ _ _ _ => true
  | .own _ _ _ _ => true
  | _ => false
def AV.smp : AV → Bool
  | .agg xs => xs.all AV.smp0
  | x => x.smp0
/-- A call that hands back one new object, whichever objects are there beside those of S0. -/
def DetO (P : Program) (f : FuncId) (args : List AV) (S0 : Store) (r0 : AV) (ob : AObj) : Prop :=
  ∀ S : Store, (∀ i o, getO S0 i = some o → getO S i = some o) → AFn P f args S (fun r S' mv => r = r0.at S.length ∧ S' = S ++ [some ob] ∧ mv = [])
/-- Names objects below n alone. -/
def AV.lt (n : Nat) (x : AV) : Prop := ∀ j, n ≤ j → x.clean [j]
/-- What the first operations of a region come to, in the order of the text, over the objects at the region's start. -/
inductive PE (P : Program) (ops : Array Oper) (S0 : Store) : List Oper → List AV → List AObj → List AV → List AObj → Prop
  | nil (tm : List AV) (N : List AObj) : PE P ops S0 [] tm N tm N
  | skip (o : Oper) (d : Tmp) (r : List Oper) (tm tmF : List AV) (N NF : List AObj) (hd : o.dst = some d) (hg : gd ops tm o = some false) (h : PE P ops S0 r (tm.set d (.tup [])) N tmF NF) : PE P ops S0 (o :: r) tm N tmF NF
  | val (o : Oper) (d : Tmp) (r : List Oper) (tm tmF : List AV) (N NF : List AObj) (φ : Prop) (v : AV) (hd : o.dst = some d) (hg : gd ops tm o = some true) (hr : opF (tiOf P) tm S0 o.op = .val φ v) (hφ : φ) (hlt : v.lt S0.length) (h : PE P ops S0 r (tm.set d v) N tmF NF) : PE P ops S0 (o :: r) tm N tmF NF
  | new (o : Oper) (d : Tmp) (r : List Oper) (tm tmF : List AV) (N NF : List AObj) (φ : Prop) (ob : AObj) (mk : Nat → AV) (hd : o.dst = some d) (hg : gd ops tm o = some true) (hr : opF (tiOf P) tm S0 o.op = .new φ ob mk) (hφ : φ) (hlt : ∀ x ∈ ob.es, ∀ y ∈ x.cells, y.lt S0.length)
      (h : PE P ops S0 r (tm.set d (mk (S0.length + N.length))) (N ++ [ob]) tmF NF) : PE P ops S0 (o :: r) tm N tmF NF
  | call (o : Oper) (d : Tmp) (r : List Oper) (tm tmF : List AV) (N NF : List AObj) (f : FuncId) (args : List AV) (v : AV) (hd : o.dst = some d) (hg : gd ops tm o = some true) (hr : opF (tiOf P) tm S0 o.op = .enter f args) (hf : Det P f args S0 v) (hlt : v.lt S0.length)
      (h : PE P ops S0 r (tm.set d v) N tmF NF) : PE P ops S0 (o :: r) tm N tmF NF
  | made (o : Oper) (d : Tmp) (r : List Oper) (tm tmF : List AV) (N NF : List AObj) (f : FuncId) (args : List AV) (r0 : AV) (ob : AObj) (hd : o.dst = some d) (hg : gd ops tm o = some true) (hr : opF (tiOf P) tm S0 o.op = .enter f args) (hf : DetO P f args S0 r0 ob) (hs : r0.smp = true)
      (hlt : ∀ x ∈ ob.es, ∀ y ∈ x.cells, y.lt S0.length) (h : PE P ops S0 r (tm.set d (r0.at (S0.length + N.length))) (N ++ [ob]) tmF NF) : PE P ops S0 (o :: r) tm N tmF NF
/-- What the i-th operation left, seen from the end. -/
def Cert (P : Program) (ops : Array Oper) (S0 : Store) (tmF : List AV) (NF : List AObj) (o : Oper) (d : Tmp) (s : Nat) (isNew : Bool) : Prop :=
  o.dst = some d ∧
  ((isNew = false ∧ gd ops tmF o = some false ∧ tmF[d]? = some (.tup []))
   ∨ (isNew = false ∧ gd ops tmF o = some true ∧ ∃ φ v, opF (tiOf P) tmF S0 o.op = .val φ v ∧ φ ∧ tmF[d]? = some v ∧ v.lt S0.length)
   ∨ (isNew = false ∧ gd ops tmF o = some true ∧ ∃ f args v, opF (tiOf P) tmF S0 o.op = .enter f args ∧ Det P f args S0 v ∧ tmF[d]? = some v ∧ v.lt S0.length)
   ∨ (isNew = true ∧ gd ops tmF o = some true ∧ ∃ φ ob mk, opF (tiOf P) tmF S0 o.op = .new φ ob mk ∧ φ ∧ tmF[d]? = some (mk (S0.length + s)) ∧ NF[s]? = some ob ∧ ∀ x ∈ ob.es, ∀ y ∈ x.cells, y.lt S0.length)
   ∨ (isNew = true ∧ gd ops tmF o = some true ∧ ∃ f args r0 ob, opF (tiOf P) tmF S0 o.op = .enter f args ∧ DetO P f args S0 r0 ob ∧ r0.smp = true ∧ tmF[d]? = some (r0.at (S0.length + s)) ∧ NF[s]? = some ob ∧ ∀ x ∈ ob.es, ∀ y ∈ x.cells, y.lt S0.length))
def dstOf (ops : Array Oper) (j : Nat) : Option Tmp := (ops[j]?).bind (·.dst)
/-- May the order be left open? -/
def chkDraw (ops : Array Oper) (npre : Nat) : Bool :=
  decide (npre ≤ ops.size) && (List.range ops.size).all fun k => match ops[k]? with
    | none => false
    | some o =>
      (o.after.toList.all fun e => Region.binds .any e && decide (e.on < k)) &&
      (if k < npre then
        (match o.op with | .select _ _ => false | _ => true) && o.dst.isSome &&
        ((o.looksAt ops).all fun t => (List.range npre).all fun j => dstOf ops j != some t || o.after.toList.any (·.on == j)) &&
        ((List.range npre).all fun j => j == k || dstOf ops j != o.dst)
      else (List.range k).all fun i => o.after.toList.any (·.on == i))
section
variable {P : Program} {ops : Array Oper} {S0 : Store}
structure Chk (ops : Array Oper) (npre : Nat) : Prop where
  le : npre ≤ ops.size
  back : ∀ k o, ops[k]? = some o → ∀ e ∈ o.after, Region.binds .any e = true ∧ e.on < k
  dst : ∀ k o, k < npre → ops[k]? = some o → ∃ d, o.dst = some d
  look : ∀ k o, k < npre → ops[k]? = some o → ∀ t ∈ o.looksAt ops, ∀ j, j < npre → dstOf ops j = some t → ∃ e ∈ o.after, e.on = j
  uniq : ∀ k o, k < npre → ops[k]? = some o → ∀ j, j < npre → j ≠ k → dstOf ops j ≠ o.dst
  post : ∀ k o, ¬ k < npre → ops[k]? = some o → ∀ i, i < k → ∃ e ∈ o.after, e.on = i
theorem chk_spec {npre : Nat} (h : chkDraw ops npre = true) : Chk ops npre := by
  unfold chkDraw at h
  rw [Bool.and_eq_true, decide_eq_true_eq, List.all_eq_true] at h
  obtain ⟨hle, hall⟩ := h
  have hk : ∀ k o, ops[k]? = some o → (o.after.toList.all fun e => Region.binds .any e && decide (e.on < k)) = true ∧
      ((if k < npre then
        (match o.op with | .select _ _ => false | _ => true) && o.dst.isSome &&
        ((o.looksAt ops).all fun t => (List.range npre).all fun j => dstOf ops j != some t || o.after.toList.any (·.on == j)) &&
        ((List.range npre).all fun j => j == k || dstOf ops j != o.dst)
      else (List.range k).all fun i => o.after.toList.any (·.on == i)) = true) := by
    intro k o ho
    have hlt := (Array.getElem?_eq_some_iff.1 ho).1
    have := hall k (List.mem_range.2 hlt)
    rw [ho] at this
    simpa only [Bool.and_eq_true] using this
  refine ⟨hle, ?_, ?_, ?_, ?_, ?_⟩
  · intro k o ho e he
    have := (hk k o ho).1
    rw [List.all_eq_true] at this
    have := this e (by simpa using he)
    simpa only [Bool.and_eq_true, decide_eq_true_eq] using this
  all_goals
    intro k o hp ho
    have h2 := (hk k o ho).2
  · rw [if_pos hp] at h2
    simp only [Bool.and_eq_true] at h2
    exact Option.isSome_iff_exists.1 h2.1.1.2
  · rw [if_pos hp] at h2
    simp only [Bool.and_eq_true, List.all_eq_true, List.mem_range] at h2
    intro t ht j hj hd
    have := h2.1.2 t ht j hj
    rw [Bool.or_eq_true] at this
    rcases this with h | h
    · simp [hd] at h
    · rw [List.any_eq_true] at h
      obtain ⟨e, he, hej⟩ := h
      exact ⟨e, by simpa using he, by simpa using hej⟩
  · rw [if_pos hp] at h2
    simp only [Bool.and_eq_true, List.all_eq_true, List.mem_range] at h2
    intro j hj hne hd
    have := h2.2 j hj
    rw [Bool.or_eq_true] at this
    rcases this with h | h
    · exact hne (by simpa using h)
    · simp [hd] at h
  · rw [if_neg hp] at h2
    rw [List.all_eq_true] at h2
    intro i hi
    have := h2 i (List.mem_range.2 hi)
    rw [List.any_eq_true] at this
    obtain ⟨e, he, hej⟩ := this
    exact ⟨e, by simpa using he, by simpa using hej⟩
theorem PE.agree {l : List Oper} {tm tmF : List AV} {N NF : List AObj} (h : PE P ops S0 l tm N tmF NF) : tmF.length = tm.length ∧ (∀ t, (∀ o ∈ l, o.dst ≠ some t) → tmF[t]? = tm[t]?) ∧ (∃ M, NF = N ++ M) := by
  induction h with
  | nil => exact ⟨rfl, fun t _ => rfl, [], by simp⟩
  | skip o d r tm tmF N NF hd hg h ih =>
    refine ⟨by simpa using ih.1, fun t ht => ?_, ih.2.2⟩
    rw [ih.2.1 t (fun o' ho' => ht o' (by simp [ho'])), List.getElem?_set_ne (fun e => ht o (by simp) (by rw [hd, e]))]
  | val o d r tm tmF N NF φ v hd hg hr hφ hlt h ih =>
    refine ⟨by simpa using ih.1, fun t ht => ?_, ih.2.2⟩
    rw [ih.2.1 t (fun o' ho' => ht o' (by simp [ho'])), List.getElem?_set_ne (fun e => ht o (by simp) (by rw [hd, e]))]
  | new o d r tm tmF N NF φ ob mk hd hg hr hφ hlt h ih =>
    refine ⟨by simpa using ih.1, fun t ht => ?_, ?_⟩
    · rw [ih.2.1 t (fun o' ho' => ht o' (by simp [ho'])), List.getElem?_set_ne (fun e => ht o (by simp) (by rw [hd, e]))]
    · obtain ⟨M, hM⟩ := ih.2.2
      exact ⟨ob :: M, by rw [hM]; simp⟩
  | call o d r tm tmF N NF f args v hd hg hr hf hlt h ih =>
    refine ⟨by simpa using ih.1, fun t ht => ?_, ih.2.2⟩
    rw [ih.2.1 t (fun o' ho' => ht o' (by simp [ho'])), List.getElem?_set_ne (fun e => ht o (by simp) (by rw [hd, e]))]
  | made o d r tm tmF N NF f args r0 ob hd hg hr hf hs hlt h ih =>
    refine ⟨by simpa using ih.1, fun t ht => ?_, ?_⟩
    · rw [ih.2.1 t (fun o' ho' => ht o' (by simp [ho'])), List.getElem?_set_ne (fun e => ht o (by simp) (by rw [hd, e]))]
    · obtain ⟨M, hM⟩ := ih.2.2
      exact ⟨ob :: M, by rw [hM]; simp⟩
theorem ev_eq {tm tm' : List AV} {x : Operand} (h : ∀ t, x = .tmp t → tm[t]? = tm'[t]?) : ev tm x = ev tm' x := by
  cases x with
  | tmp t => simp [ev, List.getD, h t rfl]
  | _ => rfl
theorem gd_eq {tm tm' : List AV} {o : Oper} (h : ∀ t ∈ o.looksAt ops, tm[t]? = tm'[t]?) : gd ops tm o = gd ops tm' o := by
  unfold gd
  cases hg : o.guard with
  | none => rfl
  | some p =>
    obtain ⟨j, want⟩ := p
    simp only
    cases hd : (ops[j]?).bind (·.dst) with
    | none => rfl
    | some t =>
      have : tm[t]? = tm'[t]? := h t (by simp [Oper.looksAt, hg, hd])
      simp only [this]
theorem looks_ops {o : Oper} {t : Tmp} (h : Operand.tmp t ∈ o.op.operands) : t ∈ o.looksAt ops :=
  List.mem_append_left _ (List.mem_filterMap.2 ⟨.tmp t, by simpa using h, rfl⟩)
theorem opR_eq {T : TypeId → Option TI} {tm tm' : List AV} {S : Store} {o : Oper} (h : ∀ t ∈ o.looksAt ops, tm[t]? = tm'[t]?) : opR T tm S o.op = opR T tm' S o.op :=
  opR_congr o.op fun x hx => ev_eq fun t e => h t (looks_ops (by rw [← e]; exact hx))
theorem opF_eq {T : TypeId → Option TI} {tm tm' : List AV} {S : Store} {o : Oper} (h : ∀ t ∈ o.looksAt ops, tm[t]? = tm'[t]?) : opF T tm S o.op = opF T tm' S o.op :=
  opF_congr o.op fun x hx => ev_eq fun t e => h t (looks_ops (by rw [← e]; exact hx))
/-- The certificates: each operation's result, at the end. -/
theorem PE.cert {l : List Oper} {tm tmF : List AV} {N NF : List AObj} (h : PE P ops S0 l tm N tmF NF) (hlen : ∀ o ∈ l, ∀ d, o.dst = some d → d < tm.length)
    (hlook : ∀ (k : Nat) (o : Oper), l[k]? = some o → ∀ t ∈ o.looksAt ops, ∀ (j : Nat) (o' : Oper), k ≤ j → l[j]? = some o' → o'.dst ≠ some t)
    (huniq : ∀ (k j : Nat) (o o' : Oper), l[k]? = some o → l[j]? = some o' → k ≠ j → o.dst ≠ o'.dst) :
    ∃ (c : Nat → Nat) (b : Nat → Bool), (∀ (k : Nat) (o : Oper), l[k]? = some o → ∃ d, Cert P ops S0 tmF NF o d (c k) (b k)) ∧
      (∀ k, k < l.length → b k = true → N.length ≤ c k ∧ c k < NF.length) ∧ (∀ k j, k < l.length → j < l.length → b k = true → b j = true → c k = c j → k = j) ∧
      (∀ s, N.length ≤ s → s < NF.length → ∃ k, k < l.length ∧ b k = true ∧ c k = s) := by
  induction h with
  | nil tm N => exact ⟨fun _ => 0, fun _ => false, fun k o hk => by simp at hk, fun k hk => by simp at hk, fun k j hk => by simp at hk, fun s h1 h2 => by omega⟩
  | skip o d r tm tmF N NF hd hg h ih =>
    obtain ⟨c, b, h1, h2, h3, h4⟩ := ih (fun o' ho' d' hd' => by simpa using hlen o' (by simp [ho']) d' hd') (fun k o' hk t ht j o'' hkj hj => hlook (k + 1) o' (by simpa using hk) t ht (j + 1) o'' (by omega) (by simpa using hj)) (fun k j o1 o2 hk hj hne => huniq (k + 1) (j + 1) o1 o2 (by simpa using hk) (by simpa using hj) (by omega))
    have hst : ∀ t ∈ o.looksAt ops, tmF[t]? = tm[t]? := fun t ht => (PE.skip o d r tm tmF N NF hd hg h).agree.2.1 t (fun o' ho' => by
      obtain ⟨j, hj, rfl⟩ := List.mem_iff_getElem.1 ho'
      exact hlook 0 o rfl t ht j _ (Nat.zero_le _) (List.getElem?_eq_getElem hj))
    have hdF : tmF[d]? = some (.tup []) := by
      rw [h.agree.2.1 d (fun o' ho' => by
        obtain ⟨j, hj, rfl⟩ := List.mem_iff_getElem.1 ho'
        intro e
        exact huniq 0 (j + 1) o _ rfl (by rw [List.getElem?_cons_succ]; exact List.getElem?_eq_getElem hj) (by omega) (by rw [hd, e])), List.getElem?_set_self (hlen o (by simp) d hd)]
    refine ⟨fun k => match k with | 0 => 0 | k + 1 => c k, fun k => match k with | 0 => false | k + 1 => b k, ?_, ?_, ?_, ?_⟩
    · intro k o' hk
      cases k with
      | zero => simp at hk; subst hk; exact ⟨d, hd, .inl ⟨rfl, by rw [gd_eq hst]; exact hg, hdF⟩⟩
      | succ k => exact h1 k o' (by simpa using hk)
    · intro k hk hb
      cases k with
      | zero => simp at hb
      | succ k => exact h2 k (by simpa using hk) hb
    · intro k j hk hj hbk hbj e
      cases k with
      | zero => simp at hbk
      | succ k => cases j with
        | zero => simp at hbj
        | succ j => rw [h3 k j (by simpa using hk) (by simpa using hj) hbk hbj e]
    · intro s hs1 hs2
      obtain ⟨k, hk, hb, hc⟩ := h4 s hs1 hs2
      exact ⟨k + 1, by simpa using hk, hb, hc⟩
  | val o d r tm tmF N NF φ v hd hg hr hφ hlt h ih =>
    obtain ⟨c, b, h1, h2, h3, h4⟩ := ih (fun o' ho' d' hd' => by simpa using hlen o' (by simp [ho']) d' hd') (fun k o' hk t ht j o'' hkj hj => hlook (k + 1) o' (by simpa using hk) t ht (j + 1) o'' (by omega) (by simpa using hj)) (fun k j o1 o2 hk hj hne => huniq (k + 1) (j + 1) o1 o2 (by simpa using hk) (by simpa using hj) (by omega))
    have hst : ∀ t ∈ o.looksAt ops, tmF[t]? = tm[t]? := fun t ht => (PE.val o d r tm tmF N NF φ v hd hg hr hφ hlt h).agree.2.1 t (fun o' ho' => by
      obtain ⟨j, hj, rfl⟩ := List.mem_iff_getElem.1 ho'
      exact hlook 0 o rfl t ht j _ (Nat.zero_le _) (List.getElem?_eq_getElem hj))
    have hdF : tmF[d]? = some v := by
      rw [h.agree.2.1 d (fun o' ho' => by
        obtain ⟨j, hj, rfl⟩ := List.mem_iff_getElem.1 ho'
        intro e
        exact huniq 0 (j + 1) o _ rfl (by rw [List.getElem?_cons_succ]; exact List.getElem?_eq_getElem hj) (by omega) (by rw [hd, e])), List.getElem?_set_self (hlen o (by simp) d hd)]
    refine ⟨fun k => match k with | 0 => 0 | k + 1 => c k, fun k => match k with | 0 => false | k + 1 => b k, ?_, ?_, ?_, ?_⟩
    · intro k o' hk
      cases k with
      | zero => simp at hk; subst hk; exact ⟨d, hd, .inr (.inl ⟨rfl, by rw [gd_eq hst]; exact hg, φ, v, by rw [opF_eq hst]; exact hr, hφ, hdF, hlt⟩)⟩
      | succ k => exact h1 k o' (by simpa using hk)
    · intro k hk hb
      cases k with
      | zero => simp at hb
      | succ k => exact h2 k (by simpa using hk) hb
    · intro k j hk hj hbk hbj e
      cases k with
      | zero => simp at hbk
      | succ k => cases j with
        | zero => simp at hbj
        | succ j => rw [h3 k j (by simpa using hk) (by simpa using hj) hbk hbj e]
    · intro s hs1 hs2
      obtain ⟨k, hk, hb, hc⟩ := h4 s hs1 hs2
      exact ⟨k + 1, by simpa using hk, hb, hc⟩
  | call o d r tm tmF N NF f args v hd hg hr hf hlt h ih =>
    obtain ⟨c, b, h1, h2, h3, h4⟩ := ih (fun o' ho' d' hd' => by simpa using hlen o' (by simp [ho']) d' hd') (fun k o' hk t ht j o'' hkj hj => hlook (k + 1) o' (by simpa using hk) t ht (j + 1) o'' (by omega) (by simpa using hj)) (fun k j o1 o2 hk hj hne => huniq (k + 1) (j + 1) o1 o2 (by simpa using hk) (by simpa using hj) (by omega))
    have hst : ∀ t ∈ o.looksAt ops, tmF[t]? = tm[t]? := fun t ht => (PE.call o d r tm tmF N NF f args v hd hg hr hf hlt h).agree.2.1 t (fun o' ho' => by
      obtain ⟨j, hj, rfl⟩ := List.mem_iff_getElem.1 ho'
      exact hlook 0 o rfl t ht j _ (Nat.zero_le _) (List.getElem?_eq_getElem hj))
    have hdF : tmF[d]? = some v := by
      rw [h.agree.2.1 d (fun o' ho' => by
        obtain ⟨j, hj, rfl⟩ := List.mem_iff_getElem.1 ho'
        intro e
        exact huniq 0 (j + 1) o _ rfl (by rw [List.getElem?_cons_succ]; exact List.getElem?_eq_getElem hj) (by omega) (by rw [hd, e])), List.getElem?_set_self (hlen o (by simp) d hd)]
    refine ⟨fun k => match k with | 0 => 0 | k + 1 => c k, fun k => match k with | 0 => false | k + 1 => b k, ?_, ?_, ?_, ?_⟩
    · intro k o' hk
      cases k with
      | zero => simp at hk; subst hk; exact ⟨d, hd, .inr (.inr (.inl ⟨rfl, by rw [gd_eq hst]; exact hg, f, args, v, by rw [opF_eq hst]; exact hr, hf, hdF, hlt⟩))⟩
      | succ k => exact h1 k o' (by simpa using hk)
    · intro k hk hb
      cases k with
      | zero => simp at hb
      | succ k => exact h2 k (by simpa using hk) hb
    · intro k j hk hj hbk hbj e
      cases k with
      | zero => simp at hbk
      | succ k => cases j with
        | zero => simp at hbj
        | succ j => rw [h3 k j (by simpa using hk) (by simpa using hj) hbk hbj e]
    · intro s hs1 hs2
      obtain ⟨k, hk, hb, hc⟩ := h4 s hs1 hs2
      exact ⟨k + 1, by simpa using hk, hb, hc⟩
  | new o d r tm tmF N NF φ ob mk hd hg hr hφ hlt h ih =>
    obtain ⟨c, b, h1, h2, h3, h4⟩ := ih (fun o' ho' d' hd' => by simpa using hlen o' (by simp [ho']) d' hd') (fun k o' hk t ht j o'' hkj hj => hlook (k + 1) o' (by simpa using hk) t ht (j + 1) o'' (by omega) (by simpa using hj)) (fun k j o1 o2 hk hj hne => huniq (k + 1) (j + 1) o1 o2 (by simpa using hk) (by simpa using hj) (by omega))
    have hst : ∀ t ∈ o.looksAt ops, tmF[t]? = tm[t]? := fun t ht => (PE.new o d r tm tmF N NF φ ob mk hd hg hr hφ hlt h).agree.2.1 t (fun o' ho' => by
      obtain ⟨j, hj, rfl⟩ := List.mem_iff_getElem.1 ho'
      exact hlook 0 o rfl t ht j _ (Nat.zero_le _) (List.getElem?_eq_getElem hj))
    have hdF : tmF[d]? = some (mk (S0.length + N.length)) := by
      rw [h.agree.2.1 d (fun o' ho' => by
        obtain ⟨j, hj, rfl⟩ := List.mem_iff_getElem.1 ho'
        intro e
        exact huniq 0 (j + 1) o _ rfl (by rw [List.getElem?_cons_succ]; exact List.getElem?_eq_getElem hj) (by omega) (by rw [hd, e])), List.getElem?_set_self (hlen o (by simp) d hd)]
    obtain ⟨M, hM⟩ := h.agree.2.2
    have hNF : NF[N.length]? = some ob := by rw [hM]; simp
    have hNl : N.length < NF.length := by rw [hM]; simp
    simp only [List.length_append, List.length_singleton] at h2 h4
    refine ⟨fun k => match k with | 0 => N.length | k + 1 => c k, fun k => match k with | 0 => true | k + 1 => b k, ?_, ?_, ?_, ?_⟩
    · intro k o' hk
      cases k with
      | zero => simp at hk; subst hk; exact ⟨d, hd, .inr (.inr (.inr (.inl ⟨rfl, by rw [gd_eq hst]; exact hg, φ, ob, mk, by rw [opF_eq hst]; exact hr, hφ, hdF, hNF, hlt⟩)))⟩
      | succ k => exact h1 k o' (by simpa using hk)
    · intro k hk hb
      cases k with
      | zero => exact ⟨Nat.le_refl _, hNl⟩
      | succ k =>
        have := h2 k (by simpa using hk) hb
        show N.length ≤ c k ∧ c k < NF.length
        exact ⟨by omega, this.2⟩
    · intro k j hk hj hbk hbj e
      cases k with
      | zero => cases j with
        | zero => rfl
        | succ j => simp only at e; have := h2 j (by simpa using hj) hbj; omega
      | succ k => cases j with
        | zero => simp only at e; have := h2 k (by simpa using hk) hbk; omega
        | succ j => rw [h3 k j (by simpa using hk) (by simpa using hj) hbk hbj e]
    · intro s hs1 hs2
      rcases Nat.lt_or_ge N.length s with hlt | hge
      · obtain ⟨k, hk, hb, hc⟩ := h4 s (by omega) hs2
        exact ⟨k + 1, by simpa using hk, hb, hc⟩
      · exact ⟨0, by simp, rfl, by simp; omega⟩
  | made o d r tm tmF N NF f args r0 ob hd hg hr hf hs hlt h ih =>
    obtain ⟨c, b, h1, h2, h3, h4⟩ := ih (fun o' ho' d' hd' => by simpa using hlen o' (by simp [ho']) d' hd') (fun k o' hk t ht j o'' hkj hj => hlook (k + 1) o' (by simpa using hk) t ht (j + 1) o'' (by omega) (by simpa using hj)) (fun k j o1 o2 hk hj hne => huniq (k + 1) (j + 1) o1 o2 (by simpa using hk) (by simpa using hj) (by omega))
    have hst : ∀ t ∈ o.looksAt ops, tmF[t]? = tm[t]? := fun t ht => (PE.made o d r tm tmF N NF f args r0 ob hd hg hr hf hs hlt h).agree.2.1 t (fun o' ho' => by
      obtain ⟨j, hj, rfl⟩ := List.mem_iff_getElem.1 ho'
      exact hlook 0 o rfl t ht j _ (Nat.zero_le _) (List.getElem?_eq_getElem hj))
    have hdF : tmF[d]? = some (r0.at (S0.length + N.length)) := by
      rw [h.agree.2.1 d (fun o' ho' => by
        obtain ⟨j, hj, rfl⟩ := List.mem_iff_getElem.1 ho'
        intro e
        exact huniq 0 (j + 1) o _ rfl (by rw [List.getElem?_cons_succ]; exact List.getElem?_eq_getElem hj) (by omega) (by rw [hd, e])), List.getElem?_set_self (hlen o (by simp) d hd)]
    obtain ⟨M, hM⟩ := h.agree.2.2
    have hNF : NF[N.length]? = some ob := by rw [hM]; simp
    have hNl : N.length < NF.length := by rw [hM]; simp
    simp only [List.length_append, List.length_singleton] at h2 h4
    refine ⟨fun k => match k with | 0 => N.length | k + 1 => c k, fun k => match k with | 0 => true | k + 1 => b k, ?_, ?_, ?_, ?_⟩
    · intro k o' hk
      cases k with
      | zero => simp at hk; subst hk; exact ⟨d, hd, .inr (.inr (.inr (.inr ⟨rfl, by rw [gd_eq hst]; exact hg, f, args, r0, ob, by rw [opF_eq hst]; exact hr, hf, hs, hdF, hNF, hlt⟩)))⟩
      | succ k => exact h1 k o' (by simpa using hk)
    · intro k hk hb
      cases k with
      | zero => exact ⟨Nat.le_refl _, hNl⟩
      | succ k =>
        have := h2 k (by simpa using hk) hb
        show N.length ≤ c k ∧ c k < NF.length
        exact ⟨by omega, this.2⟩
    · intro k j hk hj hbk hbj e
      cases k with
      | zero => cases j with
        | zero => rfl
        | succ j => simp only at e; have := h2 j (by simpa using hj) hbj; omega
      | succ k => cases j with
        | zero => simp only at e; have := h2 k (by simpa using hk) hbk; omega
        | succ j => rw [h3 k j (by simpa using hk) (by simpa using hj) hbk hbj e]
    · intro s hs1 hs2
      rcases Nat.lt_or_ge N.length s with hlt | hge
      · obtain ⟨k, hk, hb, hc⟩ := h4 s (by omega) hs2
        exact ⟨k + 1, by simpa using hk, hb, hc⟩
      · exact ⟨0, by simp, rfl, by simp; omega⟩
end
end
end Go.Proofs.YtfcnajhanjhonaaGreat.Am
end
